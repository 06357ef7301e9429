/-
  Reading a number of two bytes.
-/
import Derived.Test.YtokjdnfohbabgaaWords
import Derived.Test.YtokjdnfohbabgaaByAt
import Derived.Deep.QuietTactic
import Derived.BigQuiet
import Derived.IntWalk
import Derived.Laws.BitsAllLaws
import Derived.Laws.BitsLemmas
namespace Go.Proofs.Ytokjdnfohbabgaa
set_option linter.unusedVariables false
set_option linter.unusedSimpArgs false
open Go.RowKit

theorem word_spec (s : ByteArray) (i : Nat) (h : i + 1 < s.size) : wrap64 (wrap64 (256 * wrap64 ((s[i]'(by omega)).toNat : Int)) + wrap64 ((s[i + 1]'h).toNat : Int)) = wdAt s i := by
  rw [byAt_get s i (by omega), byAt_get s (i + 1) h]
  have := byAt_range s i
  have := byAt_range s (i + 1)
  unfold wdAt wrap64
  omega
theorem or_add (x y k : Nat) (hy : y < 2 ^ k) : x * 2 ^ k ||| y = x * 2 ^ k + y := by
  rw [← Nat.shiftLeft_eq, Nat.shiftLeft_add_eq_or_of_lt hy]
theorem ofInt64 (a : Nat) (ha : a < 9223372036854775808) : (BitVec.ofInt 64 (a : Int)).toNat = a := by
  rw [BitVec.ofInt_natCast, BitVec.toNat_ofNat]; exact Nat.mod_eq_of_lt (by omega)
theorem or64 (a b : Nat) (ha : a < 9223372036854775808) (hb : b < 9223372036854775808) : bits .or .i64 (a : Int) (b : Int) = ((a ||| b : Nat) : Int) := by
  have hx : a ||| b < 2 ^ 63 := Nat.or_lt_two_pow (by omega) (by omega)
  show IntKind.i64.wrap ((BitVec.ofInt 64 (a : Int) ||| BitVec.ofInt 64 (b : Int)).toNat : Int) = _
  rw [BitVec.toNat_or, ofInt64 a ha, ofInt64 b hb, IntKind.wrap_i64]
  omega
theorem ret_pair {a b : Int} {c : Value} (h : a = b) : Ending.returned (.tuple #[.int .i64 a, c]) = .returned (.tuple #[.int .i64 b, c]) := by rw [h]
theorem w64n (n : Nat) (h : n < 9223372036854775808) : wrap64 (n : Int) = (n : Int) := by unfold wrap64; omega
theorem word_impl (s : ByteArray) (i : Nat) (h : i + 1 < s.size) : bits .or .i64 (wrap64 (wrap64 ((s[i]'(by omega)).toNat : Int) * 256)) (wrap64 ((s[i + 1]'h).toNat : Int)) = wdAt s i := by
  have hi : i < s.size := by omega
  have h1 := (s[i]'hi).toNat_lt
  have h2 := (s[i + 1]'h).toNat_lt
  have e1 := byAt_get s i hi
  have e2 := byAt_get s (i + 1) h
  unfold wdAt
  rw [← e1, ← e2]
  generalize (s[i]'hi).toNat = a at *
  generalize (s[i + 1]'h).toNat = b at *
  rw [w64n a (by omega), w64n b (by omega), show wrap64 ((a : Int) * 256) = ((a * 256 : Nat) : Int) by unfold wrap64; omega, or64 _ _ (by omega) (by omega), or_add a b 8 (by omega)]
  omega
theorem c_l1At (s : ByteArray) (i : Nat) (w : World) (h : i + 2 ≤ s.size) (hs : s.size ≤ maxLen) :
    Calls Try.prog 39 #[.string s, .int .i64 i] w fun e w' => e = .returned (.int .i64 (wdAt s i)) ∧ ∃ n, w.drewN n = w' := by
  unfold maxLen at hs
  have q1 : (0 : Int) ≤ (i : Int) := by omega
  have q2 : (i : Int) < (s.size : Int) := by omega
  have q3 : IntKind.i64.wrap ((i : Int) + 1) = (i : Int) + 1 := IntWalk.i64_in _ (by omega)
  have q4 : (0 : Int) ≤ (i : Int) + 1 := by omega
  have q5 : (i : Int) + 1 < (s.size : Int) := by omega
  have q6 : ((i : Int) + 1).toNat = i + 1 := by omega
  go_enter Try.func39, Try.ntmps39
  go_wp2_with fail
  go_quiet (fail)
  go_wp2
  go_ret
  refine ⟨ret_int ?_, _, rfl⟩
  exact word_spec s i (by omega)
theorem c_WordGet_no (s : ByteArray) (i : Int) (w : World) (h : i < 0 ∨ (s.size : Int) - 2 < i) (hs : s.size ≤ maxLen) :
    Calls Try.prog 37 #[.string s, .int .i64 i] w fun e w' => e = .returned (.tuple #[.int .i64 0, .bool false]) ∧ w = w' := by
  unfold maxLen at hs
  by_cases h0 : i < 0
  · clear h
    go_enter Try.func37, Try.ntmps37
    go_wp2
    go_ret2
    exact ⟨rfl, rfl⟩
  · have h1 : (s.size : Int) - 2 < i := by omega
    clear h
    go_enter Try.func37, Try.ntmps37
    go_wp2
    go_ret2
    exact ⟨rfl, rfl⟩
theorem c_WordGet (s : ByteArray) (i : Nat) (w : World) (h : i + 2 ≤ s.size) (hs : s.size ≤ maxLen) :
    Calls Try.prog 37 #[.string s, .int .i64 i] w fun e w' => e = .returned (.tuple #[.int .i64 (wdAt s i), .bool true]) ∧ ∃ n, w.drewN n = w' := by
  unfold maxLen at hs
  have q1 : (0 : Int) ≤ (i : Int) := by omega
  have q0 : ¬ (s.size : Int) - 2 < (i : Int) := by omega
  have q2 : (i : Int) < (s.size : Int) := by omega
  have q3 : IntKind.i64.wrap ((i : Int) + 1) = (i : Int) + 1 := IntWalk.i64_in _ (by omega)
  have q4 : (0 : Int) ≤ (i : Int) + 1 := by omega
  have q5 : (i : Int) + 1 < (s.size : Int) := by omega
  have q6 : ((i : Int) + 1).toNat = i + 1 := by omega
  go_enter Try.func37, Try.ntmps37
  go_wp2_with fail
  go_quiet (fail)
  go_wp2
  go_ret2
  refine ⟨ret_pair ?_, _, rfl⟩
  exact word_impl s i (by omega)
end Go.Proofs.Ytokjdnfohbabgaa
