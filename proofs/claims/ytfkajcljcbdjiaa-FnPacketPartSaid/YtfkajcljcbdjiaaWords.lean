/-
  Contracts of the functions on words and chunks that call nothing or little.
-/
import Derived.Test.YtfkajcljcbdjiaaBase
namespace Go.Proofs.Ytfkajcljcbdjiaa
set_option linter.unusedVariables false
set_option linter.unusedSimpArgs false
open Go.RowKit

theorem c_l6In (n a b : Int) (w : World) : Calls Try.prog 37 #[.int .i64 n, .int .i64 a, .int .i64 b] w fun e w' => e = .returned (.bool (inB n a b)) ∧ w = w' := by
  go_enter Try.func37, Try.ntmps37
  go_wp2
  all_goals (go_ret; exact ⟨ret_bool (by unfold inB; rw [Bool.eq_iff_iff]; simp <;> omega), rfl⟩)

theorem c_WordPut_bad (n : Int) (w : World) (h : n < 0 ∨ 65535 < n) : Calls Try.prog 43 #[.int .i64 n] w fun e w' => e = .returned (.tuple #[.string ⟨#[]⟩, .bool false]) ∧ w = w' := by
  by_cases h0 : n < 0
  · go_enter Try.func43, Try.ntmps43
    go_wp2
    go_ret2
    exact ⟨rfl, rfl⟩
  · have h1 : 65535 < n := by omega
    clear h
    go_enter Try.func43, Try.ntmps43
    go_wp2
    go_ret2
    exact ⟨rfl, rfl⟩

theorem c_WordPut (n : Int) (w : World) (h : 0 ≤ n) (h1 : n ≤ 65535) : Calls Try.prog 43 #[.int .i64 n] w fun e w' => e = .returned (.tuple #[.string (w2 n), .bool true]) ∧ Below w.heap.size w w' := by
  have kc := fun (w : World) a b => conv2 (P := Try.prog) w 22 5 9 Try.underlying22 Try.underlying5 Try.underlying9 a b
  go_enter Try.func43, Try.ntmps43
  go_wp2
  go_ret2
  exact ⟨rfl, (Below.refl _ _).alloc (Nat.le_refl _) _⟩

theorem c_l1Word (n : Int) (w : World) (h : 0 ≤ n) (h1 : n ≤ 65535) : Calls Try.prog 47 #[.int .i64 n] w fun e w' => e = .returned (.string (w2 n)) ∧ Below w.heap.size w w' := by
  have kc := fun (w : World) a b => conv2 (P := Try.prog) w 22 5 9 Try.underlying22 Try.underlying5 Try.underlying9 a b
  go_enter Try.func47, Try.ntmps47
  go_wp2
  go_ret
  exact ⟨rfl, (Below.refl _ _).alloc (Nat.le_refl _) _⟩

theorem c_ChunkValid (k f : Int) (s : ByteArray) (w : World) (hs : s.size ≤ maxLen) : Calls Try.prog 39 #[.agg #[.int .i64 k, .int .i64 f, .string s]] w fun e w' => e = .returned (.bool (chunkOk k f s)) ∧ Below w.heap.size w w' := by
  unfold maxLen at hs
  go_enter Try.func39, Try.ntmps39
  go_wp2
  all_goals (go_ret; exact ⟨ret_bool (by unfold chunkOk; rw [Bool.eq_iff_iff]; simp <;> omega), (Below.refl _ _).alloc (Nat.le_refl _) _⟩)

theorem c_sChunkValid (k f : Int) (s : ByteArray) (w : World) (hs : s.size ≤ maxLen) : Calls Try.prog 36 #[.agg #[.int .i64 k, .int .i64 f, .string s]] w fun e w' => e = .returned (.bool (chunkOk k f s)) ∧ Below w.heap.size w w' := by
  unfold maxLen at hs
  go_enter Try.func36, Try.ntmps36
  go_wp2
  all_goals (go_ret; exact ⟨ret_bool (by unfold chunkOk; rw [Bool.eq_iff_iff]; simp <;> omega), (Below.refl _ _).alloc (Nat.le_refl _) _⟩)
end Go.Proofs.Ytfkajcljcbdjiaa
