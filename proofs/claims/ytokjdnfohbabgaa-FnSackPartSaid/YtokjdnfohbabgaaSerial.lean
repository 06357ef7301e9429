/-
  Serial numbers: the program's and the reference's functions, and the draws.
-/
import Derived.Test.YtokjdnfohbabgaaDrawWord
import Derived.Test.YtokjdnfohbabgaaSerOk
namespace Go.Proofs.Ytokjdnfohbabgaa
set_option linter.unusedVariables false
set_option linter.unusedSimpArgs false
open Go.RowKit

/-- n steps behind a. -/
def serAdd (a n : Int) : Int := (a + n) % 65536
/-- The steps from a to b. -/
def serDiff (a b : Int) : Int := if 32768 < (b - a) % 65536 then (b - a) % 65536 - 65536 else (b - a) % 65536
def serLess (a b : Int) : Bool := decide (1 ≤ serDiff a b ∧ serDiff a b ≤ 32767)
theorem tm_def (n : Int) : ∃ q : Int, n.tmod 65536 = n - 65536 * q ∧ -65535 ≤ n.tmod 65536 ∧ n.tmod 65536 ≤ 65535 := by
  have h1 := Int.tmod_lt_of_pos n (show (0 : Int) < 65536 by omega)
  have h2 := Int.lt_tmod_of_pos n (show (0 : Int) < 65536 by omega)
  exact ⟨n.tdiv 65536, Int.tmod_def n 65536, by omega, by omega⟩
theorem w64 (z : Int) (h : -1000000 ≤ z) (h1 : z ≤ 1000000) : wrap64 z = z := by unfold wrap64; omega
theorem serAdd_impl (a n : Int) (ha : 0 ≤ a) (ha1 : a < 65536) : (wrap64 ((wrap64 (a + n.tmod 65536)).tmod 65536 + 65536)).tmod 65536 = serAdd a n := by
  obtain ⟨q, h1, h2, h3⟩ := tm_def n
  rw [w64 (a + n.tmod 65536) (by omega) (by omega)]
  obtain ⟨q2, h4, h5, h6⟩ := tm_def (a + n.tmod 65536)
  rw [w64 _ (by omega) (by omega), Int.tmod_eq_emod_of_nonneg (by omega)]
  unfold serAdd
  omega
theorem serAdd_spec (a n : Int) (ha : 0 ≤ a) (ha1 : a < 65536) : (wrap64 (wrap64 (a + n.tmod 65536) + 65536)).tmod 65536 = serAdd a n := by
  obtain ⟨q, h1, h2, h3⟩ := tm_def n
  rw [w64 (a + n.tmod 65536) (by omega) (by omega), w64 _ (by omega) (by omega), Int.tmod_eq_emod_of_nonneg (by omega)]
  unfold serAdd
  omega
theorem serAdd_range (a n : Int) : 0 ≤ serAdd a n ∧ serAdd a n < 65536 := by unfold serAdd; omega
/-- SerialAdd, for every number of steps. -/
theorem c_SerialAdd (a n : Int) (w : World) (ha : 0 ≤ a) (ha1 : a < 65536) : Calls Try.prog 33 #[.int .i64 a, .int .i64 n] w fun e w' => e = .returned (.int .i64 (serAdd a n)) ∧ w = w' := by
  have hok := serOk_of ha ha1
  go_enter Try.func33, Try.ntmps33
  go_wp2_with fail
  refine (c_serialOk a _).mono ?_
  rintro e w' ⟨rfl, rfl⟩
  go_wp2
  go_ret
  exact ⟨ret_int (serAdd_impl a n ha ha1), rfl⟩
theorem c_l3Add (a n : Int) (w : World) (ha : 0 ≤ a) (ha1 : a < 65536) : Calls Try.prog 53 #[.int .i64 a, .int .i64 n] w fun e w' => e = .returned (.int .i64 (serAdd a n)) ∧ w = w' := by
  go_enter Try.func53, Try.ntmps53
  go_wp2
  go_ret
  exact ⟨ret_int (serAdd_spec a n ha ha1), rfl⟩
theorem c_SerialDiff (a b : Int) (w : World) (ha : 0 ≤ a) (ha1 : a < 65536) (hb : 0 ≤ b) (hb1 : b < 65536) : Calls Try.prog 32 #[.int .i64 a, .int .i64 b] w fun e w' => e = .returned (.int .i64 (serDiff a b)) ∧ w = w' := by
  have hok := serOk_of ha ha1
  have hok2 := serOk_of hb hb1
  go_enter Try.func32, Try.ntmps32
  go_wp2_with fail
  refine (c_serialOk a _).mono ?_
  rintro e w' ⟨rfl, rfl⟩
  go_wp2_with fail
  refine (c_serialOk b _).mono ?_
  rintro e w' ⟨rfl, rfl⟩
  go_wp2
  all_goals go_ret
  all_goals exact ⟨ret_int (by unfold serDiff; split <;> omega), rfl⟩
theorem c_SerialDiff_no (a b : Int) (w : World) (h : serOk a = false ∨ (serOk a = true ∧ serOk b = false)) : Calls Try.prog 32 #[.int .i64 a, .int .i64 b] w fun e w' => e = .returned (.int .i64 (-65536)) ∧ w = w' := by
  rcases h with hok | ⟨hok, hok2⟩
  · go_enter Try.func32, Try.ntmps32
    go_wp2_with fail
    refine (c_serialOk a _).mono ?_
    rintro e w' ⟨rfl, rfl⟩
    go_wp2
    go_ret
    exact ⟨rfl, rfl⟩
  · go_enter Try.func32, Try.ntmps32
    go_wp2_with fail
    refine (c_serialOk a _).mono ?_
    rintro e w' ⟨rfl, rfl⟩
    go_wp2_with fail
    refine (c_serialOk b _).mono ?_
    rintro e w' ⟨rfl, rfl⟩
    go_wp2
    go_ret
    exact ⟨rfl, rfl⟩
theorem c_l3Diff (a b : Int) (w : World) (ha : 0 ≤ a) (ha1 : a < 65536) (hb : 0 ≤ b) (hb1 : b < 65536) : Calls Try.prog 61 #[.int .i64 a, .int .i64 b] w fun e w' => e = .returned (.int .i64 (serDiff a b)) ∧ w = w' := by
  have hr := serAdd_range b (-a)
  have e1 : serAdd b (-a) = (b - a) % 65536 := by unfold serAdd; omega
  have E1 := Lib.hid e1
  clear e1
  obtain ⟨hr0, hr1⟩ := hr
  go_enter Try.func61, Try.ntmps61
  go_wp2_with fail
  refine (c_l3Add b (-a) _ hb hb1).mono ?_
  rintro e w' ⟨rfl, rfl⟩
  go_wp2
  all_goals go_ret
  all_goals exact ⟨ret_int (by unfold serDiff; rw [← E1.out]; split <;> omega), rfl⟩
/-- What SerialLess gives. -/
def serLessV (a b : Int) : Bool := serOk a && serOk b && serLess a b
/-- A reader's call that hands back any number at all within bounds. -/
theorem c_l91Near (g k : Nat) (a : Int) (w : World) (hR : Rd w g k) (hk : k ≤ 80000) :
    Calls Try.prog 54 #[.pointer (some ⟨g, 0, none⟩), .int .i64 a] w (RdInt w g (k + 5) (-1) 65536) := by
  have hgw := hR.lt
  cases hok : serOk a with
  | false =>
    go_enter Try.func54, Try.ntmps54
    go_wp2_with fail
    refine (c_l3Ok a _).mono ?_
    rintro e w' ⟨rfl, rfl⟩
    go_wp2_with fail
    refine (c_l91Word g k _ hR (by omega)).mono ?_
    rintro e w2 ⟨v, rfl, hv0, hv1, hR2, hg2⟩
    go_wp2
    go_ret
    exact ⟨v, rfl, hv0, hv1, hR2.mono (by omega), hg2⟩
  | true =>
    obtain ⟨ha, ha1⟩ := serOk_yes hok
    go_enter Try.func54, Try.ntmps54
    go_wp2_with fail
    refine (c_l3Ok a _).mono ?_
    rintro e w' ⟨rfl, rfl⟩
    go_wp2_with fail
    refine (c_pick g k 3 _ hR (by omega) (by omega)).mono ?_
    rintro e w1 ⟨v, rfl, hv0, hv1, hR1, hg1⟩
    by_cases hv : 0 < v
    · go_wp2_with fail
      refine (c_pick g (k + 1) 8 _ (hR1.alloc _) (by omega) (by omega)).mono ?_
      rintro e w2 ⟨u, rfl, hu0, hu1, hR2, hg2⟩
      obtain ⟨x, hx, hx0, hx1⟩ := lit_picked [0, 1, -1, 2, 32767, 32768, 32769, 5] (-1) 65536 (by decide) u hu0 (by show u < 8; omega) hg2 hR1.lt
      have G2 := Lib.hid (only_trans hg1 (only_trans (only_alloc (only_refl _ _) _) hg2))
      clear hg1 hg2
      go_wp2_with fail
      refine (c_l3Add a x _ ha ha1).mono ?_
      rintro e w3 ⟨rfl, rfl⟩
      obtain ⟨r0, r1⟩ := serAdd_range a x
      go_wp2
      go_ret
      exact ⟨_, rfl, by omega, by omega, hR2.mono (by omega), G2.out⟩
    · have hv2 : v = 0 := by omega
      subst hv2
      go_wp2_with fail
      refine (c_l91Word g (k + 1) _ hR1 (by omega)).mono ?_
      rintro e w2 ⟨v, rfl, hv0, hv1, hR2, hg2⟩
      go_wp2
      go_ret
      exact ⟨v, rfl, hv0, hv1, hR2.mono (by omega), only_trans hg1 hg2⟩
/-- Two drawn numbers, and nothing old turned. -/
def DrTwo (w : World) (e : Ending) (w' : World) : Prop := ∃ a b : Int, e = .returned (.tuple #[.int .i64 a, .int .i64 b]) ∧ -1 ≤ a ∧ a ≤ 65536 ∧ -1 ≤ b ∧ b ≤ 65536 ∧ Below w.heap.size w w'
/-- What SerialLast gives. -/
def serLastV (a b : Int) : Int := if serOk a = true ∧ serOk b = true then (if serLess a b = true then b else a) else -1
/-- SerialIn of a number itself, one of one: is it a serial number? -/
theorem c_SerialIn_self (a : Int) (w : World) : Calls Try.prog 31 #[.int .i64 a, .int .i64 a, .int .i64 1] w fun e w' => e = .returned (.bool (serOk a)) ∧ w = w' := by
  cases h1 : serOk a with
  | false =>
    go_enter Try.func31, Try.ntmps31
    go_wp2_with fail
    refine (c_l3Ok a _).mono ?_
    rintro e w' ⟨rfl, rfl⟩
    go_wp2
    go_ret
    exact ⟨rfl, rfl⟩
  | true =>
    obtain ⟨ha, ha1⟩ := serOk_yes h1
    have h0 : serAdd a (-a) = 0 := by unfold serAdd; omega
    have hin : inB 1 0 32768 = true := by decide
    go_enter Try.func31, Try.ntmps31
    go_wp2_with fail
    refine (c_l3Ok a _).mono ?_
    rintro e w' ⟨rfl, rfl⟩
    go_wp2_with fail
    refine (c_l3Ok a _).mono ?_
    rintro e w' ⟨rfl, rfl⟩
    go_wp2_with fail
    refine (c_l6In 1 0 32768 _).mono ?_
    rintro e w' ⟨rfl, rfl⟩
    go_wp2_with fail
    refine (c_l3Add a (-a) _ ha ha1).mono ?_
    rintro e w' ⟨rfl, rfl⟩
    go_wp2
    go_ret
    exact ⟨rfl, rfl⟩
end Go.Proofs.Ytokjdnfohbabgaa
