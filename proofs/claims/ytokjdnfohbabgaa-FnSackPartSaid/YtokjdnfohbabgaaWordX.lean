/-
  The reference's writing of numbers, with the very blocks that it makes.
-/
import Derived.Test.YtokjdnfohbabgaaLongs
import Derived.Test.YtokjdnfohbabgaaStep
namespace Go.Proofs.Ytokjdnfohbabgaa
set_option linter.unusedVariables false
set_option linter.unusedSimpArgs false
open Go.RowKit

/-- The block that l1Word makes. -/
def wObj (n : Int) : Obj := .cells #[.int .u8 (n / 256), .int .u8 (n % 256)] 5
theorem c_l1WordX (n : Int) (w : World) (h : 0 ≤ n) (h1 : n ≤ 65535) : Calls Try.prog 43 #[.int .i64 n] w fun e w' => e = .returned (.string (w2 n)) ∧ w.alloc (wObj n) = w' := by
  have kc := fun (w : World) a b => conv2 (P := Try.prog) w 22 5 9 Try.underlying22 Try.underlying5 Try.underlying9 a b
  go_enter Try.func43, Try.ntmps43
  go_wp2
  go_ret
  exact ⟨rfl, rfl⟩
end Go.Proofs.Ytokjdnfohbabgaa
