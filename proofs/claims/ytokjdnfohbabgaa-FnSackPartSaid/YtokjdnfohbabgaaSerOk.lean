/-
  Is a number a serial number?
-/
import Derived.Test.YtokjdnfohbabgaaWords
namespace Go.Proofs.Ytokjdnfohbabgaa
set_option linter.unusedVariables false
set_option linter.unusedSimpArgs false
open Go.RowKit

def serOk (n : Int) : Bool := decide (0 ≤ n ∧ n < 65536)
theorem c_serialOk (n : Int) (w : World) : Calls Try.prog 48 #[.int .i64 n] w fun e w' => e = .returned (.bool (serOk n)) ∧ w = w' := by
  go_enter Try.func48, Try.ntmps48
  go_wp2
  all_goals (go_ret; exact ⟨ret_bool (by unfold serOk; rw [Bool.eq_iff_iff]; simp <;> omega), rfl⟩)
theorem c_l3Ok (n : Int) (w : World) : Calls Try.prog 45 #[.int .i64 n] w fun e w' => e = .returned (.bool (serOk n)) ∧ w = w' := by
  go_enter Try.func45, Try.ntmps45
  go_wp2_with fail
  refine (c_l6In n 0 65535 _).mono ?_
  rintro e w' ⟨rfl, rfl⟩
  go_wp2
  go_ret
  exact ⟨ret_bool (by unfold serOk inB; rw [Bool.eq_iff_iff]; simp; omega), rfl⟩
theorem serOk_yes {n : Int} (h : serOk n = true) : 0 ≤ n ∧ n < 65536 := by unfold serOk at h; simpa using h
theorem serOk_of {n : Int} (h : 0 ≤ n) (h1 : n < 65536) : serOk n = true := by unfold serOk; simp; omega
end Go.Proofs.Ytokjdnfohbabgaa
