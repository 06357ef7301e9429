/-
  The laws' own small functions on chunks: their size, their copy, their equality.
-/
import Derived.Test.YtfkajcljcbdjiaaBlk
namespace Go.Proofs.Ytfkajcljcbdjiaa
set_option linter.unusedVariables false
set_option linter.unusedSimpArgs false
open Go.RowKit

theorem c_szChunk (k f : Int) (s : ByteArray) (n : Int) (w : World) (hs : s.size ≤ maxLen) (h0 : 0 ≤ n) (h1 : n ≤ 9223372036854775807) : Calls Try.prog 51 #[.agg #[.int .i64 k, .int .i64 f, .string s], .int .i64 n] w fun e w' => e = .returned (.int .i64 (if n < s.size then -1 else n - s.size)) ∧ Below w.heap.size w w' := by
  unfold maxLen at hs
  by_cases h : n < s.size
  · rw [if_pos h]
    go_enter Try.func51, Try.ntmps51
    go_wp2
    go_ret
    exact ⟨rfl, (Below.refl _ _).alloc (Nat.le_refl _) _⟩
  · rw [if_neg h]
    go_enter Try.func51, Try.ntmps51
    go_wp2
    go_ret
    exact ⟨rfl, (Below.refl _ _).alloc (Nat.le_refl _) _⟩
theorem c_toChunk (k f : Int) (s : ByteArray) (w : World) : Calls Try.prog 52 #[.agg #[.int .i64 k, .int .i64 f, .string s]] w fun e w' => e = .returned (.agg #[.int .i64 k, .int .i64 f, .string s]) ∧ Below w.heap.size w w' := by
  go_enter Try.func52, Try.ntmps52
  go_wp2
  exact bodyPost_ret (v := .agg #[.int .i64 k, .int .i64 f, .string s]) (by simp [results, Try.results52, go_sem]) rfl ⟨rfl, (((Below.refl _ _).alloc (Nat.le_refl _) _).alloc (by simp) _).alloc (by simp; omega) _⟩
theorem c_eqChunk (k f k' f' : Int) (s s' : ByteArray) (w : World) (h : k = k' ∧ f = f' ∧ s = s') : Calls Try.prog 53 #[.agg #[.int .i64 k, .int .i64 f, .string s], .agg #[.int .i64 k', .int .i64 f', .string s']] w fun e w' => e = .returned (.bool true) ∧ Below w.heap.size w w' := by
  obtain ⟨rfl, rfl, rfl⟩ := h
  have h1 : (k != k) = false := by simp
  have h2 : (f != f) = false := by simp
  have h3 : (s.toList == s.toList) = true := by simp
  go_enter Try.func53, Try.ntmps53
  go_wp2
  go_ret
  exact ⟨rfl, ((Below.refl _ _).alloc (Nat.le_refl _) _).alloc (by simp) _⟩
end Go.Proofs.Ytfkajcljcbdjiaa
