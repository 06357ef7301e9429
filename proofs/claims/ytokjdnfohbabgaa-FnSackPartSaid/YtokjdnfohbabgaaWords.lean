/-
  Contracts of the functions on words and chunks that call nothing or little.
-/
import Derived.Test.YtokjdnfohbabgaaBase
namespace Go.Proofs.Ytokjdnfohbabgaa
set_option linter.unusedVariables false
set_option linter.unusedSimpArgs false
open Go.RowKit

theorem c_l6In (n a b : Int) (w : World) : Calls Try.prog 55 #[.int .i64 n, .int .i64 a, .int .i64 b] w fun e w' => e = .returned (.bool (inB n a b)) ∧ w = w' := by
  go_enter Try.func55, Try.ntmps55
  go_wp2
  all_goals (go_ret; exact ⟨ret_bool (by unfold inB; rw [Bool.eq_iff_iff]; simp <;> omega), rfl⟩)

theorem c_WordPut_bad (n : Int) (w : World) (h : n < 0 ∨ 65535 < n) : Calls Try.prog 60 #[.int .i64 n] w fun e w' => e = .returned (.tuple #[.string ⟨#[]⟩, .bool false]) ∧ w = w' := by
  by_cases h0 : n < 0
  · go_enter Try.func60, Try.ntmps60
    go_wp2
    go_ret2
    exact ⟨rfl, rfl⟩
  · have h1 : 65535 < n := by omega
    clear h
    go_enter Try.func60, Try.ntmps60
    go_wp2
    go_ret2
    exact ⟨rfl, rfl⟩

theorem c_WordPut (n : Int) (w : World) (h : 0 ≤ n) (h1 : n ≤ 65535) : Calls Try.prog 60 #[.int .i64 n] w fun e w' => e = .returned (.tuple #[.string (w2 n), .bool true]) ∧ Below w.heap.size w w' := by
  have kc := fun (w : World) a b => conv2 (P := Try.prog) w 22 5 9 Try.underlying22 Try.underlying5 Try.underlying9 a b
  go_enter Try.func60, Try.ntmps60
  go_wp2
  go_ret2
  exact ⟨rfl, (Below.refl _ _).alloc (Nat.le_refl _) _⟩

theorem c_l1Word (n : Int) (w : World) (h : 0 ≤ n) (h1 : n ≤ 65535) : Calls Try.prog 43 #[.int .i64 n] w fun e w' => e = .returned (.string (w2 n)) ∧ Below w.heap.size w w' := by
  have kc := fun (w : World) a b => conv2 (P := Try.prog) w 22 5 9 Try.underlying22 Try.underlying5 Try.underlying9 a b
  go_enter Try.func43, Try.ntmps43
  go_wp2
  go_ret
  exact ⟨rfl, (Below.refl _ _).alloc (Nat.le_refl _) _⟩

end Go.Proofs.Ytokjdnfohbabgaa
