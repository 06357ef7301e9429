/-
  Drawn numbers: a valid one of two bytes; one of four bytes.
-/
import Derived.Test.YtfkajcljcbdjiaaDrawWord
import Derived.Test.YtfkajcljcbdjiaaStep
import Derived.WalkLawsBesides
namespace Go.Proofs.Ytfkajcljcbdjiaa
set_option linter.unusedVariables false
set_option linter.unusedSimpArgs false
open Go.RowKit

theorem c_l91Good (g k : Nat) (w : World) (hR : Rd w g k) (hk : k ≤ 80000) : Calls Try.prog 56 #[.pointer (some ⟨g, 0, none⟩)] w (RdInt w g (k + 3) 0 65535) := by
  go_enter Try.func56, Try.ntmps56
  go_wp2_with fail
  refine (c_l91Word g k _ hR (by omega)).mono ?_
  rintro e w1 ⟨v, rfl, hv0, hv1, hR1, hg1⟩
  go_wp2
  all_goals go_ret
  all_goals exact ⟨_, rfl, by omega, by omega, hR1, hg1⟩
theorem c_l91Long (g k : Nat) (w : World) (hR : Rd w g k) (hk : k ≤ 79000) : Calls Try.prog 46 #[.pointer (some ⟨g, 0, none⟩)] w (RdInt w g (k + 7) (-1) 4294967296) := by
  go_enter Try.func46, Try.ntmps46
  go_wp2_with fail
  refine (c_pick g k 12 _ hR (by omega) (by omega)).mono ?_
  rintro e w1 ⟨v, rfl, hv0, hv1, hR1, hg1⟩
  by_cases h0 : v = 0
  · subst h0
    go_wp2_with fail
    refine (c_pick g (k + 1) 4 _ (hR1.alloc _) (by omega) (by omega)).mono ?_
    rintro e w2 ⟨u, rfl, hu0, hu1, hR2, hg2⟩
    obtain ⟨x, hx, hx0, hx1⟩ := lit_picked [-1, 0, 4294967295, 4294967296] (-1) 4294967296 (by decide) u hu0 (by show u < 4; omega) hg2 hR1.lt
    go_wp2
    go_ret
    exact ⟨x, rfl, hx0, hx1, hR2.mono (by omega), only_trans hg1 (only_trans (only_alloc (only_refl _ _) _) hg2)⟩
  · go_wp2_with fail
    refine (c_l91Good g (k + 1) _ hR1 (by omega)).mono ?_
    rintro e w2 ⟨x, rfl, hx0, hx1, hR2, hg2⟩
    go_wp2_with fail
    refine (c_l91Good g (k + 1 + 3) _ hR2 (by omega)).mono ?_
    rintro e w3 ⟨y, rfl, hy0, hy1, hR3, hg3⟩
    go_wp2
    go_ret
    exact ⟨_, rfl, by omega, by omega, hR3.mono (by omega), only_trans hg1 (only_trans hg2 hg3)⟩
end Go.Proofs.Ytfkajcljcbdjiaa
