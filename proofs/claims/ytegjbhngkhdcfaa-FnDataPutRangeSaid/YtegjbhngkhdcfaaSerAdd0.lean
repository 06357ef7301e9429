/-
  SerialAdd by no steps: the number itself where it is a serial number.
-/
import Derived.Test.YtegjbhngkhdcfaaSerOk
import Derived.Test.YtegjbhngkhdcfaaStep
namespace Go.Proofs.Ytegjbhngkhdcfaa
set_option linter.unusedVariables false
set_option linter.unusedSimpArgs false
open Go.RowKit

/-- What SerialAdd by no steps gives. -/
def saV (a : Int) : Int := bif serOk a then a else -1
theorem saV_ge (a : Int) : 0 ≤ saV a ↔ (0 ≤ a ∧ a < 65536) := by
  unfold saV
  cases h : serOk a with
  | true => have := serOk_yes h; show 0 ≤ a ↔ _; omega
  | false =>
    unfold serOk at h
    simp at h
    show 0 ≤ (-1 : Int) ↔ _
    omega
theorem c_SerialAdd0 (a : Int) (w : World) : Calls Try.prog 35 #[.int .i64 a, .int .i64 0] w fun e w' => e = .returned (.int .i64 (saV a)) ∧ w = w' := by
  unfold saV
  cases h : serOk a with
  | true =>
    obtain ⟨h0, h1⟩ := serOk_yes h
    go_enter Try.func35, Try.ntmps35
    go_wp2_with fail
    refine (c_serialOk a _).mono ?_
    rintro e w' ⟨rfl, rfl⟩
    go_wp2
    go_ret
    exact ⟨ret_int (by simp only [cond_true]; omega), rfl⟩
  | false =>
    go_enter Try.func35, Try.ntmps35
    go_wp2_with fail
    refine (c_serialOk a _).mono ?_
    rintro e w' ⟨rfl, rfl⟩
    go_wp2
    go_ret
    exact ⟨rfl, rfl⟩
end Go.Proofs.Ytegjbhngkhdcfaa
