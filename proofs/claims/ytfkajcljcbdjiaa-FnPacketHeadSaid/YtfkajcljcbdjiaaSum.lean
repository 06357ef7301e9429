/-
  The checksum of a text: the program's and the reference's functions.
-/
import Derived.Test.YtfkajcljcbdjiaaBytes
import Derived.Test.YtfkajcljcbdjiaaStep
import Derived.LoopTactic
namespace Go.Proofs.Ytfkajcljcbdjiaa
set_option linter.unusedVariables false
set_option linter.unusedSimpArgs false
open Go.RowKit

/-- Both parts of a checksum behind i bytes. -/
def sumR (s : ByteArray) : Nat → Int × Int
  | 0 => (1, 0)
  | i + 1 => (((sumR s i).1 + byAt s i) % 65521, ((sumR s i).2 + ((sumR s i).1 + byAt s i) % 65521) % 65521)
theorem sumR_range (s : ByteArray) (i : Nat) : 0 ≤ (sumR s i).1 ∧ (sumR s i).1 ≤ 65520 ∧ 0 ≤ (sumR s i).2 ∧ (sumR s i).2 ≤ 65520 := by
  induction i with
  | zero => exact ⟨by show (0:Int) ≤ 1; omega, by show (1:Int) ≤ 65520; omega, by show (0:Int) ≤ 0; omega, by show (0:Int) ≤ 65520; omega⟩
  | succ i ih =>
    obtain ⟨h1, h2, h3, h4⟩ := ih
    have h5 := byAt_range s i
    show 0 ≤ ((sumR s i).1 + byAt s i) % 65521 ∧ ((sumR s i).1 + byAt s i) % 65521 ≤ 65520 ∧ 0 ≤ ((sumR s i).2 + ((sumR s i).1 + byAt s i) % 65521) % 65521 ∧ ((sumR s i).2 + ((sumR s i).1 + byAt s i) % 65521) % 65521 ≤ 65520
    omega
/-- The checksum of a text. -/
def sumV (s : ByteArray) : Int := 65536 * (sumR s s.size).2 + (sumR s s.size).1
theorem sumV_range (s : ByteArray) : 0 ≤ sumV s ∧ sumV s ≤ 4294967295 := by
  unfold sumV
  have := sumR_range s s.size
  omega
theorem w64i (n : Int) (h : 0 ≤ n) (h1 : n < 9223372036854775808) : wrap64 n = n := by unfold wrap64; omega
set_option maxHeartbeats 1000000 in
theorem c_sumOn (s : ByteArray) (w : World) (hs : s.size ≤ 4000000) : Calls Try.prog 34 #[.int .i64 1, .int .i64 0, .string s] w fun e w' => e = .returned (.int .i64 (sumV s)) ∧ w = w' := by
  go_enter Try.func34, Try.ntmps34
  go_wp2
  go_loopw [0, 1, 7] (fun a b i wr => ∃ j : Nat, j ≤ s.size ∧ i = .int .i64 j ∧ a = .int .i64 (sumR s j).1 ∧ b = .int .i64 (sumR s j).2 ∧ w = wr) (fun _ _ i _ => s.size - (intOf i).toNat)
  case atStart => exact ⟨0, Nat.zero_le _, rfl, rfl, rfl, rfl⟩
  case round =>
    obtain ⟨j, hj, rfl, rfl, rfl, rfl⟩ := hrel
    obtain ⟨r0, r1, r2, r3⟩ := sumR_range s j
    by_cases hlt : j < s.size
    · have hjn : (j : Int) < (s.size : Int) := by omega
      have hj0 : (0 : Int) ≤ (j : Int) := by omega
      have hb := byAt_get s j hlt
      have hr := byAt_range s j
      have e1 : (sumR s (j + 1)).1 = ((sumR s j).1 + byAt s j) % 65521 := rfl
      have e2 : (sumR s (j + 1)).2 = ((sumR s j).2 + (sumR s (j + 1)).1) % 65521 := rfl
      have E1 := Lib.hid e1
      have E2 := Lib.hid e2
      clear e1 e2
      generalize (sumR s j).1 = a at *
      generalize (sumR s j).2 = b at *
      go_wp2
      go_roundw
      case rel => exact ⟨j + 1, by omega, by go_num, by simp [E1.out, E2.out], by simp [E1.out, E2.out], by first | rfl | trivial⟩
      case measure => simp [intOf]; omega
    · have hje : j = s.size := by omega
      subst hje
      have HV := Lib.hid (show sumV s = 65536 * (sumR s s.size).2 + (sumR s s.size).1 from rfl)
      generalize (sumR s s.size).1 = a at *
      generalize (sumR s s.size).2 = b at *
      go_wp2
      go_ret
      exact ⟨ret_int (by rw [HV.out]; omega), by first | rfl | trivial⟩
set_option maxHeartbeats 1000000 in
theorem c_l2Next (s : ByteArray) (w : World) (hs : s.size ≤ 4000000) : Calls Try.prog 57 #[.int .i64 1, .string s] w fun e w' => e = .returned (.int .i64 (sumV s)) ∧ w = w' := by
  go_enter Try.func57, Try.ntmps57
  go_wp2
  go_loopw [5, 6, 7] (fun a b i wr => ∃ j : Nat, j ≤ s.size ∧ i = .int .i64 j ∧ a = .int .i64 (sumR s j).1 ∧ b = .int .i64 (sumR s j).2 ∧ w = wr) (fun _ _ i _ => s.size - (intOf i).toNat)
  case atStart => exact ⟨0, Nat.zero_le _, rfl, rfl, rfl, rfl⟩
  case round =>
    obtain ⟨j, hj, rfl, rfl, rfl, rfl⟩ := hrel
    obtain ⟨r0, r1, r2, r3⟩ := sumR_range s j
    by_cases hlt : j < s.size
    · have hjn : (j : Int) < (s.size : Int) := by omega
      have hj0 : (0 : Int) ≤ (j : Int) := by omega
      have hb := byAt_get s j hlt
      have hr := byAt_range s j
      have e1 : (sumR s (j + 1)).1 = ((sumR s j).1 + byAt s j) % 65521 := rfl
      have e2 : (sumR s (j + 1)).2 = ((sumR s j).2 + (sumR s (j + 1)).1) % 65521 := rfl
      have E1 := Lib.hid e1
      have E2 := Lib.hid e2
      clear e1 e2
      generalize (sumR s j).1 = a at *
      generalize (sumR s j).2 = b at *
      go_wp2
      go_roundw
      case rel => exact ⟨j + 1, by omega, by go_num, by simp [E1.out, E2.out], by simp [E1.out, E2.out], by first | rfl | trivial⟩
      case measure => simp [intOf]; omega
    · have hje : j = s.size := by omega
      subst hje
      have HV := Lib.hid (show sumV s = 65536 * (sumR s s.size).2 + (sumR s s.size).1 from rfl)
      generalize (sumR s s.size).1 = a at *
      generalize (sumR s s.size).2 = b at *
      go_wp2
      go_ret
      exact ⟨ret_int (by rw [HV.out]), by first | rfl | trivial⟩
theorem c_SumText (s : ByteArray) (w : World) (hs : s.size ≤ 4000000) : Calls Try.prog 18 #[.string s] w fun e w' => e = .returned (.int .i64 (sumV s)) ∧ w = w' := by
  go_enter Try.func18, Try.ntmps18
  go_wp2_with fail
  refine (c_sumOn s _ hs).mono ?_
  rintro e w1 ⟨rfl, h1⟩
  go_wp2
  go_ret
  exact ⟨rfl, h1⟩
end Go.Proofs.Ytfkajcljcbdjiaa
