/-
  A text that is changed, sometimes.
-/
import Derived.Test.YtokjdnfohbabgaaDraws
import Derived.IntWalk
import Derived.Deep.RegionWith
namespace Go.Proofs.Ytokjdnfohbabgaa
set_option linter.unusedVariables false
set_option linter.unusedSimpArgs false
open Go.RowKit

theorem se (b : ByteArray) : b.toList.isEmpty = decide (b.size = 0) := by
  have h : b.toList.length = b.size := by rw [ByteArray.toList_eq]; rfl
  rw [← h]
  cases b.toList <;> simp
theorem ext_size (s : ByteArray) (a b : Nat) (hb : b ≤ s.size) : (s.extract a b).size = b - a := by
  rw [ByteArray.size_extract]; omega
set_option maxHeartbeats 1000000 in
theorem c_l91Spoil (g k : Nat) (s : ByteArray) (w : World) (hR : Rd w g k) (hk : k ≤ 80000) (hs : s.size ≤ 1000) :
    Calls Try.prog 59 #[.pointer (some ⟨g, 0, none⟩), .string s] w (RdStr w g (k + 4) (s.size + 1)) := by
  cases hem : s.toList.isEmpty with
  | true =>
    go_enter Try.func59, Try.ntmps59
    go_wp2
    go_ret
    exact ⟨s, rfl, Nat.le_succ _, hR.mono (by omega), only_refl _ _⟩
  | false =>
    have hpos : 0 < s.size := by rw [se] at hem; have := of_decide_eq_false hem; omega
    go_enter Try.func59, Try.ntmps59
    go_wp2_with fail
    refine (c_pick g k 3 _ hR (by omega) (by omega)).mono ?_
    rintro e w1 ⟨v, rfl, hv0, hv1, hR1, hg1⟩
    by_cases hv : 0 < v
    · go_wp2
      go_ret
      exact ⟨s, rfl, Nat.le_succ _, hR1.mono (by omega), hg1⟩
    go_wp2_with fail
    refine (c_pick g (k + 1) s.size _ hR1 (by omega) (by omega)).mono ?_
    rintro e w2 ⟨u, rfl, hu0, hu1, hR2, hg2⟩
    obtain ⟨m, rfl⟩ := Int.eq_ofNat_of_zero_le hu0
    have hm : m < s.size := by omega
    go_wp2_with fail
    refine (c_pick g (k + 1 + 1) 4 _ hR2 (by omega) (by omega)).mono ?_
    rintro e w3 ⟨z, rfl, hz0, hz1, hR3, hg3⟩
    have G3 := Lib.hid (only_trans hg1 (only_trans hg2 hg3))
    clear hg1 hg2 hg3
    have x1 := ext_size s 0 m (by omega)
    have x2 := ext_size s (m + 1) s.size (Nat.le_refl _)
    have q1 : IntKind.i64.wrap ((m : Int) + 1) = (m : Int) + 1 := IntWalk.i64_in _ (by omega)
    have q2 : (0 : Int) ≤ (m : Int) := by omega
    have q3 : (m : Int) ≤ (s.size : Int) := by omega
    have q4 : (0 : Int) ≤ (m : Int) + 1 := by omega
    have q5 : (m : Int) + 1 ≤ (s.size : Int) := by omega
    have q6 : ((m : Int) + 1).toNat = m + 1 := by omega
    have y1 : (s.extract 0 m).size ≤ 1000 := by omega
    have y2 : (s.extract (m + 1) s.size).size ≤ 1000 := by omega
    have X1 := Lib.hid x1
    have X2 := Lib.hid x2
    clear x1 x2
    rcases (show z = 0 ∨ z = 1 ∨ z = 2 ∨ z = 3 by omega) with rfl | rfl | rfl | rfl
    · go_wp2
      go_ret
      exact ⟨_, rfl, by rw [X1.out]; omega, hR3.mono (by omega), G3.out⟩
    · have hz : ¬ 9223372036854775807 < s.size + 1 := by omega
      go_wp2
      go_ret
      exact ⟨_, rfl, by rw [ByteArray.size_append]; exact Nat.le_refl _, hR3.mono (by omega), G3.out⟩
    · have hz : ¬ 9223372036854775807 < (s.extract 0 m).size + (s.extract (m + 1) s.size).size := by omega
      go_wp2_with fail
      go_quiet (fail)
      go_wp2
      go_ret
      exact ⟨_, rfl, by rw [ByteArray.size_append, X1.out, X2.out]; omega, (hR3.mono (by omega)).drewN _, only_drewN G3.out _⟩
    · have kc := fun (w : World) a => conv1 (P := Try.prog) w 22 5 9 Try.underlying22 Try.underlying5 Try.underlying9 a
      have hz : ¬ 9223372036854775807 < (s.extract 0 m).size + 1 := by omega
      have hz2 : ¬ 9223372036854775807 < (s.extract 0 m).size + 1 + (s.extract (m + 1) s.size).size := by omega
      go_wp2_with fail
      go_region_with (go_at_call 52; refine (c_pick g (k + 1 + 1 + 1) 256 _ hR3.drew (by omega) (by omega)).mono ?_; rintro e w4 ⟨b, rfl, hb0, hb1, hR4, hg4⟩)
      all_goals go_wp2
      all_goals go_ret
      all_goals exact ⟨_, rfl, by rw [ByteArray.size_append, ByteArray.size_append, X1.out, X2.out, by1_size]; omega, (hR4.mono (by omega)).alloc _, only_alloc (only_trans (only_drew G3.out) hg4) _⟩
end Go.Proofs.Ytokjdnfohbabgaa
