/-
  Drawn numbers: a valid one of two bytes; one of four bytes.
-/
import Derived.Test.YtokjdnfohbabgaaDrawWord
import Derived.Test.YtokjdnfohbabgaaStep
import Derived.WalkLawsBesides
namespace Go.Proofs.Ytokjdnfohbabgaa
set_option linter.unusedVariables false
set_option linter.unusedSimpArgs false
open Go.RowKit

theorem c_l91Good (g k : Nat) (w : World) (hR : Rd w g k) (hk : k ≤ 80000) : Calls Try.prog 56 #[.pointer (some ⟨g, 0, none⟩)] w (RdInt w g (k + 3) 0 65535) := by
  go_enter Try.func56, Try.ntmps56
  go_wp2_with fail
  refine (c_l91Word g k _ hR (by omega)).mono ?_
  rintro e w1 ⟨v, rfl, hv0, hv1, hR1, hg1⟩
  go_wp2
  all_goals go_ret
  all_goals exact ⟨_, rfl, by omega, by omega, hR1, hg1⟩
end Go.Proofs.Ytokjdnfohbabgaa
