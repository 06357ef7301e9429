/-
  The reference's writing of numbers, with the very blocks that it makes.
-/
import Derived.Test.YtegjbhngkhdcfaaLongs
import Derived.Test.YtegjbhngkhdcfaaStep
namespace Go.Proofs.Ytegjbhngkhdcfaa
set_option linter.unusedVariables false
set_option linter.unusedSimpArgs false
open Go.RowKit

/-- The block that l1Word makes. -/
def wObj (n : Int) : Obj := .cells #[.int .u8 (n / 256), .int .u8 (n % 256)] 5
theorem c_l1WordX (n : Int) (w : World) (h : 0 ≤ n) (h1 : n ≤ 65535) : Calls Try.prog 51 #[.int .i64 n] w fun e w' => e = .returned (.string (w2 n)) ∧ w.alloc (wObj n) = w' := by
  have kc := fun (w : World) a b => conv2 (P := Try.prog) w 22 5 9 Try.underlying22 Try.underlying5 Try.underlying9 a b
  go_enter Try.func51, Try.ntmps51
  go_wp2
  go_ret
  exact ⟨rfl, rfl⟩
theorem c_l1LongX (n : Int) (w : World) (h : 0 ≤ n) (h1 : n ≤ 4294967295) : Calls Try.prog 50 #[.int .i64 n] w fun e w' => e = .returned (.string (w4 n)) ∧ (w.alloc (wObj (n / 65536))).alloc (wObj (n % 65536)) = w' := by
  have hq0 : 0 ≤ n / 65536 := by omega
  have hq1 : n / 65536 ≤ 65535 := by omega
  have hr0 : 0 ≤ n % 65536 := by omega
  have hr1 : n % 65536 ≤ 65535 := by omega
  go_enter Try.func50, Try.ntmps50
  go_wp2_with fail
  refine (c_l1WordX (n / 65536) _ hq0 hq1).mono ?_
  rintro e w1 ⟨rfl, rfl⟩
  go_wp2_with fail
  refine (c_l1WordX (n % 65536) _ hr0 hr1).mono ?_
  rintro e w2 ⟨rfl, rfl⟩
  go_wp2
  go_ret
  exact ⟨rfl, rfl⟩
end Go.Proofs.Ytegjbhngkhdcfaa
