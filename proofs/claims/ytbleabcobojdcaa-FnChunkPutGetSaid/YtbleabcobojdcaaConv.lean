/-
  The laws' own small functions on chunks: their size, their copy, their equality; the reference's writing of a chunk.
-/
import Derived.Test.YtbleabcobojdcaaChunkPut
namespace Go.Proofs.Ytbleabcobojdcaa
set_option linter.unusedVariables false
set_option linter.unusedSimpArgs false
open Go.RowKit

theorem c_sChunkPut (k f : Int) (s : ByteArray) (w : World) (hs : s.size ≤ maxLen) : Calls Try.prog 22 #[.agg #[.int .i64 k, .int .i64 f, .string s]] w fun e w' => e = .returned (.string (chunkPutV k f s)) ∧ Below w.heap.size w w' := by
  cases h : chunkOk k f s with
  | false =>
    rw [chunkPutV_no h]
    go_enter Try.func22, Try.ntmps22
    go_wp2_with fail
    refine (c_sChunkValid k f s _ hs).mono ?_
    rintro e w1 ⟨rfl, h1⟩
    go_wp2
    go_ret
    exact ⟨rfl, below_step ((Below.refl _ _).alloc (Nat.le_refl _) _) (by simp) h1⟩
  | true =>
    rw [chunkPutV_ok h]
    have h' := h
    unfold chunkOk at h'
    simp at h'
    obtain ⟨hk, hk1, hf, hf1, hs1⟩ := h'
    go_enter Try.func22, Try.ntmps22
    go_wp2_with fail
    refine (c_sChunkValid k f s _ hs).mono ?_
    rintro e w1 ⟨rfl, h1⟩
    obtain ⟨c0, c1, c2, hlt⟩ := box3 h1
    have hB1 := Lib.hid (below_step ((Below.refl w.heap.size w).alloc (Nat.le_refl _) _) (by simp) h1)
    clear h1
    go_wp2_with fail
    refine (c_l11Put k f s _ hk hk1 hf hf1 hs1).mono ?_
    rintro e w2 ⟨rfl, h2⟩
    go_wp2
    go_ret
    exact ⟨rfl, below_step hB1.out hB1.out.size h2⟩
theorem c_szChunk (k f : Int) (s : ByteArray) (n : Int) (w : World) (hs : s.size ≤ maxLen) (h0 : 0 ≤ n) (h1 : n ≤ 9223372036854775807) : Calls Try.prog 17 #[.agg #[.int .i64 k, .int .i64 f, .string s], .int .i64 n] w fun e w' => e = .returned (.int .i64 (if n < s.size then -1 else n - s.size)) ∧ Below w.heap.size w w' := by
  unfold maxLen at hs
  by_cases h : n < s.size
  · rw [if_pos h]
    go_enter Try.func17, Try.ntmps17
    go_wp2
    go_ret
    exact ⟨rfl, (Below.refl _ _).alloc (Nat.le_refl _) _⟩
  · rw [if_neg h]
    go_enter Try.func17, Try.ntmps17
    go_wp2
    go_ret
    exact ⟨rfl, (Below.refl _ _).alloc (Nat.le_refl _) _⟩
theorem c_toChunk (k f : Int) (s : ByteArray) (w : World) : Calls Try.prog 19 #[.agg #[.int .i64 k, .int .i64 f, .string s]] w fun e w' => e = .returned (.agg #[.int .i64 k, .int .i64 f, .string s]) ∧ Below w.heap.size w w' := by
  go_enter Try.func19, Try.ntmps19
  go_wp2
  exact bodyPost_ret (v := .agg #[.int .i64 k, .int .i64 f, .string s]) (by simp [results, Try.results19, go_sem]) rfl ⟨rfl, (((Below.refl _ _).alloc (Nat.le_refl _) _).alloc (by simp) _).alloc (by simp; omega) _⟩
theorem c_eqChunk (k f k' f' : Int) (s s' : ByteArray) (w : World) (h : k = k' ∧ f = f' ∧ s = s') : Calls Try.prog 37 #[.agg #[.int .i64 k, .int .i64 f, .string s], .agg #[.int .i64 k', .int .i64 f', .string s']] w fun e w' => e = .returned (.bool true) ∧ Below w.heap.size w w' := by
  obtain ⟨rfl, rfl, rfl⟩ := h
  have h1 : (k != k) = false := by simp
  have h2 : (f != f) = false := by simp
  have h3 : (s.toList == s.toList) = true := by simp
  go_enter Try.func37, Try.ntmps37
  go_wp2
  go_ret
  exact ⟨rfl, ((Below.refl _ _).alloc (Nat.le_refl _) _).alloc (by simp) _⟩
end Go.Proofs.Ytbleabcobojdcaa
