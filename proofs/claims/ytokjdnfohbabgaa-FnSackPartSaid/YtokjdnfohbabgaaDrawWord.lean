/-
  A drawn number of two bytes.
-/
import Derived.Test.YtokjdnfohbabgaaDraws
namespace Go.Proofs.Ytokjdnfohbabgaa
set_option linter.unusedVariables false
set_option linter.unusedSimpArgs false
open Go.RowKit

theorem c_l91Word (g k : Nat) (w : World) (hR : Rd w g k) (hk : k ≤ 90000) :
    Calls Try.prog 57 #[.pointer (some ⟨g, 0, none⟩)] w (RdInt w g (k + 3) (-1) 65536) := by
  go_enter Try.func57, Try.ntmps57
  go_wp2_with fail
  refine (c_pick g k 12 _ hR (by omega) (by omega)).mono ?_
  rintro e w1 ⟨v, rfl, hv0, hv1, hR1, hg1⟩
  by_cases h0 : v = 0
  · subst h0
    go_wp2_with fail
    refine (c_pick g (k + 1) 6 _ (hR1.alloc _) (by omega) (by omega)).mono ?_
    rintro e w2 ⟨u, rfl, hu0, hu1, hR2, hg2⟩
    obtain ⟨x, hx, hx0, hx1⟩ := lit_picked [-1, 0, 65535, 65536, 256, 255] (-1) 65536 (by decide) u hu0 (by show u < 6; omega) hg2 hR1.lt
    go_wp2
    go_ret
    exact ⟨x, rfl, hx0, hx1, hR2.mono (by omega), only_trans hg1 (only_trans (only_alloc (only_refl _ _) _) hg2)⟩
  by_cases h3 : v = 3
  · subst h3
    go_wp2_with fail
    refine (c_pick g (k + 1) 256 _ hR1 (by omega) (by omega)).mono ?_
    rintro e w2 ⟨u, rfl, hu0, hu1, hR2, hg2⟩
    go_wp2_with fail
    refine (c_pick g (k + 1 + 1) 256 _ hR2 (by omega) (by omega)).mono ?_
    rintro e w3 ⟨u', rfl, hu2, hu3, hR3, hg3⟩
    go_wp2
    go_ret
    exact ⟨_, rfl, by omega, by omega, hR3, only_trans hg1 (only_trans hg2 hg3)⟩
  by_cases h1 : v = 1
  · subst h1
    go_wp2_with fail
    refine (c_pick g (k + 1) 6 _ hR1 (by omega) (by omega)).mono ?_
    rintro e w2 ⟨u, rfl, hu0, hu1, hR2, hg2⟩
    go_wp2
    go_ret
    exact ⟨_, rfl, by omega, by omega, hR2.mono (by omega), only_trans hg1 hg2⟩
  by_cases h2 : v = 2
  · subst h2
    go_wp2_with fail
    refine (c_pick g (k + 1) 6 _ hR1 (by omega) (by omega)).mono ?_
    rintro e w2 ⟨u, rfl, hu0, hu1, hR2, hg2⟩
    go_wp2
    go_ret
    exact ⟨_, rfl, by omega, by omega, hR2.mono (by omega), only_trans hg1 hg2⟩
  have h4 : 4 ≤ v := by omega
  clear h0 h1 h2 h3
  go_wp2_with fail
  refine (c_pick g (k + 1) 20 _ hR1 (by omega) (by omega)).mono ?_
  rintro e w2 ⟨u, rfl, hu0, hu1, hR2, hg2⟩
  go_wp2
  go_ret
  exact ⟨_, rfl, by omega, by omega, hR2.mono (by omega), only_trans hg1 hg2⟩

end Go.Proofs.Ytokjdnfohbabgaa
