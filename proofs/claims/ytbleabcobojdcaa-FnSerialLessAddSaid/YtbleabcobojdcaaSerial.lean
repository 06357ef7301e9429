/-
  Serial numbers: the program's and the reference's functions, and the draws.
-/
import Derived.Test.YtbleabcobojdcaaDraws
namespace Go.Proofs.Ytbleabcobojdcaa
set_option linter.unusedVariables false
set_option linter.unusedSimpArgs false
open Go.RowKit

def serOk (n : Int) : Bool := decide (0 ≤ n ∧ n < 65536)
/-- n steps behind a. -/
def serAdd (a n : Int) : Int := (a + n) % 65536
/-- The steps from a to b. -/
def serDiff (a b : Int) : Int := if 32768 < (b - a) % 65536 then (b - a) % 65536 - 65536 else (b - a) % 65536
def serLess (a b : Int) : Bool := decide (1 ≤ serDiff a b ∧ serDiff a b ≤ 32767)
theorem c_serialOk (n : Int) (w : World) : Calls Try.prog 49 #[.int .i64 n] w fun e w' => e = .returned (.bool (serOk n)) ∧ w = w' := by
  go_enter Try.func49, Try.ntmps49
  go_wp2
  all_goals (go_ret; exact ⟨ret_bool (by unfold serOk; rw [Bool.eq_iff_iff]; simp <;> omega), rfl⟩)
theorem c_l3Ok (n : Int) (w : World) : Calls Try.prog 46 #[.int .i64 n] w fun e w' => e = .returned (.bool (serOk n)) ∧ w = w' := by
  go_enter Try.func46, Try.ntmps46
  go_wp2_with fail
  refine (c_l6In n 0 65535 _).mono ?_
  rintro e w' ⟨rfl, rfl⟩
  go_wp2
  go_ret
  exact ⟨ret_bool (by unfold serOk inB; rw [Bool.eq_iff_iff]; simp; omega), rfl⟩
theorem serOk_yes {n : Int} (h : serOk n = true) : 0 ≤ n ∧ n < 65536 := by unfold serOk at h; simpa using h
theorem serOk_of {n : Int} (h : 0 ≤ n) (h1 : n < 65536) : serOk n = true := by unfold serOk; simp; omega
theorem tm_def (n : Int) : ∃ q : Int, n.tmod 65536 = n - 65536 * q ∧ -65535 ≤ n.tmod 65536 ∧ n.tmod 65536 ≤ 65535 := by
  have h1 := Int.tmod_lt_of_pos n (show (0 : Int) < 65536 by omega)
  have h2 := Int.lt_tmod_of_pos n (show (0 : Int) < 65536 by omega)
  exact ⟨n.tdiv 65536, Int.tmod_def n 65536, by omega, by omega⟩
theorem w64 (z : Int) (h : -1000000 ≤ z) (h1 : z ≤ 1000000) : wrap64 z = z := by unfold wrap64; omega
theorem serAdd_impl (a n : Int) (ha : 0 ≤ a) (ha1 : a < 65536) : (wrap64 ((wrap64 (a + n.tmod 65536)).tmod 65536 + 65536)).tmod 65536 = serAdd a n := by
  obtain ⟨q, h1, h2, h3⟩ := tm_def n
  rw [w64 (a + n.tmod 65536) (by omega) (by omega)]
  obtain ⟨q2, h4, h5, h6⟩ := tm_def (a + n.tmod 65536)
  rw [w64 _ (by omega) (by omega), Int.tmod_eq_emod_of_nonneg (by omega)]
  unfold serAdd
  omega
theorem serAdd_spec (a n : Int) (ha : 0 ≤ a) (ha1 : a < 65536) : (wrap64 (wrap64 (a + n.tmod 65536) + 65536)).tmod 65536 = serAdd a n := by
  obtain ⟨q, h1, h2, h3⟩ := tm_def n
  rw [w64 (a + n.tmod 65536) (by omega) (by omega), w64 _ (by omega) (by omega), Int.tmod_eq_emod_of_nonneg (by omega)]
  unfold serAdd
  omega
theorem serAdd_range (a n : Int) : 0 ≤ serAdd a n ∧ serAdd a n < 65536 := by unfold serAdd; omega
/-- SerialAdd, for every number of steps. -/
theorem c_SerialAdd (a n : Int) (w : World) (ha : 0 ≤ a) (ha1 : a < 65536) : Calls Try.prog 31 #[.int .i64 a, .int .i64 n] w fun e w' => e = .returned (.int .i64 (serAdd a n)) ∧ w = w' := by
  have hok := serOk_of ha ha1
  go_enter Try.func31, Try.ntmps31
  go_wp2_with fail
  refine (c_serialOk a _).mono ?_
  rintro e w' ⟨rfl, rfl⟩
  go_wp2
  go_ret
  exact ⟨ret_int (serAdd_impl a n ha ha1), rfl⟩
theorem c_l3Add (a n : Int) (w : World) (ha : 0 ≤ a) (ha1 : a < 65536) : Calls Try.prog 48 #[.int .i64 a, .int .i64 n] w fun e w' => e = .returned (.int .i64 (serAdd a n)) ∧ w = w' := by
  go_enter Try.func48, Try.ntmps48
  go_wp2
  go_ret
  exact ⟨ret_int (serAdd_spec a n ha ha1), rfl⟩
theorem c_SerialDiff (a b : Int) (w : World) (ha : 0 ≤ a) (ha1 : a < 65536) (hb : 0 ≤ b) (hb1 : b < 65536) : Calls Try.prog 45 #[.int .i64 a, .int .i64 b] w fun e w' => e = .returned (.int .i64 (serDiff a b)) ∧ w = w' := by
  have hok := serOk_of ha ha1
  have hok2 := serOk_of hb hb1
  go_enter Try.func45, Try.ntmps45
  go_wp2_with fail
  refine (c_serialOk a _).mono ?_
  rintro e w' ⟨rfl, rfl⟩
  go_wp2_with fail
  refine (c_serialOk b _).mono ?_
  rintro e w' ⟨rfl, rfl⟩
  go_wp2
  all_goals go_ret
  all_goals exact ⟨ret_int (by unfold serDiff; split <;> omega), rfl⟩
theorem c_SerialDiff_no (a b : Int) (w : World) (h : serOk a = false ∨ (serOk a = true ∧ serOk b = false)) : Calls Try.prog 45 #[.int .i64 a, .int .i64 b] w fun e w' => e = .returned (.int .i64 (-65536)) ∧ w = w' := by
  rcases h with hok | ⟨hok, hok2⟩
  · go_enter Try.func45, Try.ntmps45
    go_wp2_with fail
    refine (c_serialOk a _).mono ?_
    rintro e w' ⟨rfl, rfl⟩
    go_wp2
    go_ret
    exact ⟨rfl, rfl⟩
  · go_enter Try.func45, Try.ntmps45
    go_wp2_with fail
    refine (c_serialOk a _).mono ?_
    rintro e w' ⟨rfl, rfl⟩
    go_wp2_with fail
    refine (c_serialOk b _).mono ?_
    rintro e w' ⟨rfl, rfl⟩
    go_wp2
    go_ret
    exact ⟨rfl, rfl⟩
theorem c_l3Diff (a b : Int) (w : World) (ha : 0 ≤ a) (ha1 : a < 65536) (hb : 0 ≤ b) (hb1 : b < 65536) : Calls Try.prog 56 #[.int .i64 a, .int .i64 b] w fun e w' => e = .returned (.int .i64 (serDiff a b)) ∧ w = w' := by
  have hr := serAdd_range b (-a)
  have e1 : serAdd b (-a) = (b - a) % 65536 := by unfold serAdd; omega
  have E1 := Lib.hid e1
  clear e1
  obtain ⟨hr0, hr1⟩ := hr
  go_enter Try.func56, Try.ntmps56
  go_wp2_with fail
  refine (c_l3Add b (-a) _ hb hb1).mono ?_
  rintro e w' ⟨rfl, rfl⟩
  go_wp2
  all_goals go_ret
  all_goals exact ⟨ret_int (by unfold serDiff; rw [← E1.out]; split <;> omega), rfl⟩
theorem c_l3Less (a b : Int) (w : World) (ha : 0 ≤ a) (ha1 : a < 65536) (hb : 0 ≤ b) (hb1 : b < 65536) : Calls Try.prog 47 #[.int .i64 a, .int .i64 b] w fun e w' => e = .returned (.bool (serLess a b)) ∧ w = w' := by
  go_enter Try.func47, Try.ntmps47
  go_wp2_with fail
  refine (c_l3Diff a b _ ha ha1 hb hb1).mono ?_
  rintro e w' ⟨rfl, rfl⟩
  go_wp2_with fail
  refine (c_l6In (serDiff a b) 1 32767 _).mono ?_
  rintro e w' ⟨rfl, rfl⟩
  go_wp2
  go_ret
  exact ⟨rfl, rfl⟩
/-- What SerialLess gives. -/
def serLessV (a b : Int) : Bool := serOk a && serOk b && serLess a b
theorem c_SerialLess (a b : Int) (w : World) : Calls Try.prog 28 #[.int .i64 a, .int .i64 b] w fun e w' => e = .returned (.bool (serLessV a b)) ∧ w = w' := by
  by_cases h : serOk a = true ∧ serOk b = true
  · obtain ⟨h1, h2⟩ := h
    have hv := Lib.hid (show serLessV a b = serLess a b by unfold serLessV; simp [h1, h2])
    obtain ⟨ha, ha1⟩ := serOk_yes h1
    obtain ⟨hb, hb1⟩ := serOk_yes h2
    clear h1 h2
    go_enter Try.func28, Try.ntmps28
    go_wp2_with fail
    refine (c_SerialDiff a b _ ha ha1 hb hb1).mono ?_
    rintro e w' ⟨rfl, rfl⟩
    go_wp2
    all_goals go_ret
    all_goals exact ⟨ret_bool (by rw [hv.out]; unfold serLess; rw [Bool.eq_iff_iff]; simp <;> omega), rfl⟩
  · have hv := Lib.hid (show serLessV a b = false by unfold serLessV; cases h1 : serOk a <;> cases h2 : serOk b <;> simp_all)
    have hn : serOk a = false ∨ (serOk a = true ∧ serOk b = false) := by cases h1 : serOk a <;> cases h2 : serOk b <;> simp_all
    clear h
    go_enter Try.func28, Try.ntmps28
    go_wp2_with fail
    refine (c_SerialDiff_no a b _ hn).mono ?_
    rintro e w' ⟨rfl, rfl⟩
    go_wp2
    go_ret
    exact ⟨ret_bool (by rw [hv.out]), rfl⟩

/-- A reader's call that hands back any number at all within bounds. -/
theorem c_l91Near (g k : Nat) (a : Int) (w : World) (hR : Rd w g k) (hk : k ≤ 80000) :
    Calls Try.prog 55 #[.pointer (some ⟨g, 0, none⟩), .int .i64 a] w (RdInt w g (k + 5) (-1) 65536) := by
  have hgw := hR.lt
  cases hok : serOk a with
  | false =>
    go_enter Try.func55, Try.ntmps55
    go_wp2_with fail
    refine (c_l3Ok a _).mono ?_
    rintro e w' ⟨rfl, rfl⟩
    go_wp2_with fail
    refine (c_l91Word g k _ hR (by omega)).mono ?_
    rintro e w2 ⟨v, rfl, hv0, hv1, hR2, hg2⟩
    go_wp2
    go_ret
    exact ⟨v, rfl, hv0, hv1, hR2.mono (by omega), hg2⟩
  | true =>
    obtain ⟨ha, ha1⟩ := serOk_yes hok
    go_enter Try.func55, Try.ntmps55
    go_wp2_with fail
    refine (c_l3Ok a _).mono ?_
    rintro e w' ⟨rfl, rfl⟩
    go_wp2_with fail
    refine (c_pick g k 3 _ hR (by omega) (by omega)).mono ?_
    rintro e w1 ⟨v, rfl, hv0, hv1, hR1, hg1⟩
    by_cases hv : 0 < v
    · go_wp2_with fail
      refine (c_pick g (k + 1) 8 _ (hR1.alloc _) (by omega) (by omega)).mono ?_
      rintro e w2 ⟨u, rfl, hu0, hu1, hR2, hg2⟩
      obtain ⟨x, hx, hx0, hx1⟩ := lit_picked [0, 1, -1, 2, 32767, 32768, 32769, 5] (-1) 65536 (by decide) u hu0 (by show u < 8; omega) hg2 hR1.lt
      have G2 := Lib.hid (only_trans hg1 (only_trans (only_alloc (only_refl _ _) _) hg2))
      clear hg1 hg2
      go_wp2_with fail
      refine (c_l3Add a x _ ha ha1).mono ?_
      rintro e w3 ⟨rfl, rfl⟩
      obtain ⟨r0, r1⟩ := serAdd_range a x
      go_wp2
      go_ret
      exact ⟨_, rfl, by omega, by omega, hR2.mono (by omega), G2.out⟩
    · have hv2 : v = 0 := by omega
      subst hv2
      go_wp2_with fail
      refine (c_l91Word g (k + 1) _ hR1 (by omega)).mono ?_
      rintro e w2 ⟨v, rfl, hv0, hv1, hR2, hg2⟩
      go_wp2
      go_ret
      exact ⟨v, rfl, hv0, hv1, hR2.mono (by omega), only_trans hg1 hg2⟩
/-- Two drawn numbers, and nothing old turned. -/
def DrTwo (w : World) (e : Ending) (w' : World) : Prop := ∃ a b : Int, e = .returned (.tuple #[.int .i64 a, .int .i64 b]) ∧ -1 ≤ a ∧ a ≤ 65536 ∧ -1 ≤ b ∧ b ≤ 65536 ∧ Below w.heap.size w w'
theorem c_DrawSerialDiff (a : Option Addr) (n c : Nat) (w : World) (hC : Code w a n c) : Calls Try.prog 44 #[.slice a n c] w (DrTwo w) := by
  go_enter Try.func44, Try.ntmps44
  go_wp2_with fail
  refine (c_l6Open a n c _ hC).mono ?_
  rintro e w1 ⟨g, rfl, hg, hR, hb⟩
  go_wp2_with fail
  refine (c_l91Word g 0 _ hR (by omega)).mono ?_
  rintro e w2 ⟨x, rfl, hx0, hx1, hR2, hg2⟩
  have B2 := Lib.hid (below_only hb hg2 hb.size hg)
  clear hb hg2
  go_wp2_with fail
  refine (c_l91Near g (0 + 3) x _ hR2 (by omega)).mono ?_
  rintro e w3 ⟨y, rfl, hy0, hy1, hR3, hg3⟩
  go_wp2
  go_ret2
  exact ⟨x, y, rfl, hx0, hx1, hy0, hy1, below_only B2.out hg3 B2.out.size hg⟩
theorem c_DrawSerialLess (a : Option Addr) (n c : Nat) (w : World) (hC : Code w a n c) : Calls Try.prog 27 #[.slice a n c] w (DrTwo w) := by
  go_enter Try.func27, Try.ntmps27
  go_wp2_with fail
  refine (c_DrawSerialDiff a n c _ hC).mono ?_
  rintro e w1 ⟨x, y, rfl, hx0, hx1, hy0, hy1, hb⟩
  go_wp2
  go_ret2
  exact ⟨x, y, rfl, hx0, hx1, hy0, hy1, hb⟩
theorem c_DrawSerialLast (a : Option Addr) (n c : Nat) (w : World) (hC : Code w a n c) : Calls Try.prog 32 #[.slice a n c] w (DrTwo w) := by
  go_enter Try.func32, Try.ntmps32
  go_wp2_with fail
  refine (c_DrawSerialDiff a n c _ hC).mono ?_
  rintro e w1 ⟨x, y, rfl, hx0, hx1, hy0, hy1, hb⟩
  go_wp2
  go_ret2
  exact ⟨x, y, rfl, hx0, hx1, hy0, hy1, hb⟩

theorem c_sSerialLess (a b : Int) (w : World) : Calls Try.prog 29 #[.int .i64 a, .int .i64 b] w fun e w' => e = .returned (.bool (serLessV a b)) ∧ w = w' := by
  cases h1 : serOk a with
  | false =>
    have hv := Lib.hid (show serLessV a b = false by unfold serLessV; simp [h1])
    go_enter Try.func29, Try.ntmps29
    go_wp2_with fail
    refine (c_l3Ok a _).mono ?_
    rintro e w' ⟨rfl, rfl⟩
    go_wp2
    go_ret
    exact ⟨ret_bool (by rw [hv.out]), rfl⟩
  | true =>
    cases h2 : serOk b with
    | false =>
      have hv := Lib.hid (show serLessV a b = false by unfold serLessV; simp [h2])
      go_enter Try.func29, Try.ntmps29
      go_wp2_with fail
      refine (c_l3Ok a _).mono ?_
      rintro e w' ⟨rfl, rfl⟩
      go_wp2_with fail
      refine (c_l3Ok b _).mono ?_
      rintro e w' ⟨rfl, rfl⟩
      go_wp2
      go_ret
      exact ⟨ret_bool (by rw [hv.out]), rfl⟩
    | true =>
      have hv := Lib.hid (show serLessV a b = serLess a b by unfold serLessV; simp [h1, h2])
      obtain ⟨ha, ha1⟩ := serOk_yes h1
      obtain ⟨hb, hb1⟩ := serOk_yes h2
      go_enter Try.func29, Try.ntmps29
      go_wp2_with fail
      refine (c_l3Ok a _).mono ?_
      rintro e w' ⟨rfl, rfl⟩
      go_wp2_with fail
      refine (c_l3Ok b _).mono ?_
      rintro e w' ⟨rfl, rfl⟩
      go_wp2_with fail
      refine (c_l3Less a b _ ha ha1 hb hb1).mono ?_
      rintro e w' ⟨rfl, rfl⟩
      go_wp2
      go_ret
      exact ⟨ret_bool (by rw [hv.out]), rfl⟩
/-- What SerialLast gives. -/
def serLastV (a b : Int) : Int := if serOk a = true ∧ serOk b = true then (if serLess a b = true then b else a) else -1
theorem c_SerialLast (a b : Int) (w : World) : Calls Try.prog 33 #[.int .i64 a, .int .i64 b] w fun e w' => e = .returned (.int .i64 (serLastV a b)) ∧ w = w' := by
  cases h1 : serOk a with
  | false =>
    have hv := Lib.hid (show serLastV a b = -1 by unfold serLastV; simp [h1])
    go_enter Try.func33, Try.ntmps33
    go_wp2_with fail
    refine (c_serialOk a _).mono ?_
    rintro e w' ⟨rfl, rfl⟩
    go_wp2
    go_ret
    exact ⟨ret_int (by rw [hv.out]), rfl⟩
  | true =>
    cases h2 : serOk b with
    | false =>
      have hv := Lib.hid (show serLastV a b = -1 by unfold serLastV; simp [h2])
      go_enter Try.func33, Try.ntmps33
      go_wp2_with fail
      refine (c_serialOk a _).mono ?_
      rintro e w' ⟨rfl, rfl⟩
      go_wp2_with fail
      refine (c_serialOk b _).mono ?_
      rintro e w' ⟨rfl, rfl⟩
      go_wp2
      go_ret
      exact ⟨ret_int (by rw [hv.out]), rfl⟩
    | true =>
      obtain ⟨ha, ha1⟩ := serOk_yes h1
      obtain ⟨hb, hb1⟩ := serOk_yes h2
      cases h3 : serLess a b with
      | true =>
        have hv := Lib.hid (show serLastV a b = b by unfold serLastV; simp [h1, h2, h3])
        have h4 : serLessV a b = true := by unfold serLessV; simp [h1, h2, h3]
        go_enter Try.func33, Try.ntmps33
        go_wp2_with fail
        refine (c_serialOk a _).mono ?_
        rintro e w' ⟨rfl, rfl⟩
        go_wp2_with fail
        refine (c_serialOk b _).mono ?_
        rintro e w' ⟨rfl, rfl⟩
        go_wp2_with fail
        refine (c_SerialLess a b _).mono ?_
        rintro e w' ⟨rfl, rfl⟩
        go_wp2
        go_ret
        exact ⟨ret_int (by rw [hv.out]), rfl⟩
      | false =>
        have hv := Lib.hid (show serLastV a b = a by unfold serLastV; simp [h1, h2, h3])
        have h4 : serLessV a b = false := by unfold serLessV; simp [h1, h2, h3]
        go_enter Try.func33, Try.ntmps33
        go_wp2_with fail
        refine (c_serialOk a _).mono ?_
        rintro e w' ⟨rfl, rfl⟩
        go_wp2_with fail
        refine (c_serialOk b _).mono ?_
        rintro e w' ⟨rfl, rfl⟩
        go_wp2_with fail
        refine (c_SerialLess a b _).mono ?_
        rintro e w' ⟨rfl, rfl⟩
        go_wp2
        go_ret
        exact ⟨ret_int (by rw [hv.out]), rfl⟩
theorem c_sSerialLast (a b : Int) (w : World) : Calls Try.prog 34 #[.int .i64 a, .int .i64 b] w fun e w' => e = .returned (.int .i64 (serLastV a b)) ∧ w = w' := by
  cases h1 : serOk a with
  | false =>
    have hv := Lib.hid (show serLastV a b = -1 by unfold serLastV; simp [h1])
    go_enter Try.func34, Try.ntmps34
    go_wp2_with fail
    refine (c_l3Ok a _).mono ?_
    rintro e w' ⟨rfl, rfl⟩
    go_wp2
    go_ret
    exact ⟨ret_int (by rw [hv.out]), rfl⟩
  | true =>
    cases h2 : serOk b with
    | false =>
      have hv := Lib.hid (show serLastV a b = -1 by unfold serLastV; simp [h2])
      go_enter Try.func34, Try.ntmps34
      go_wp2_with fail
      refine (c_l3Ok a _).mono ?_
      rintro e w' ⟨rfl, rfl⟩
      go_wp2_with fail
      refine (c_l3Ok b _).mono ?_
      rintro e w' ⟨rfl, rfl⟩
      go_wp2
      go_ret
      exact ⟨ret_int (by rw [hv.out]), rfl⟩
    | true =>
      obtain ⟨ha, ha1⟩ := serOk_yes h1
      obtain ⟨hb, hb1⟩ := serOk_yes h2
      cases h3 : serLess a b with
      | true =>
        have hv := Lib.hid (show serLastV a b = b by unfold serLastV; simp [h1, h2, h3])
        go_enter Try.func34, Try.ntmps34
        go_wp2_with fail
        refine (c_l3Ok a _).mono ?_
        rintro e w' ⟨rfl, rfl⟩
        go_wp2_with fail
        refine (c_l3Ok b _).mono ?_
        rintro e w' ⟨rfl, rfl⟩
        go_wp2_with fail
        refine (c_l3Less a b _ ha ha1 hb hb1).mono ?_
        rintro e w' ⟨rfl, rfl⟩
        go_wp2
        go_ret
        exact ⟨ret_int (by rw [hv.out]), rfl⟩
      | false =>
        have hv := Lib.hid (show serLastV a b = a by unfold serLastV; simp [h1, h2, h3])
        go_enter Try.func34, Try.ntmps34
        go_wp2_with fail
        refine (c_l3Ok a _).mono ?_
        rintro e w' ⟨rfl, rfl⟩
        go_wp2_with fail
        refine (c_l3Ok b _).mono ?_
        rintro e w' ⟨rfl, rfl⟩
        go_wp2_with fail
        refine (c_l3Less a b _ ha ha1 hb hb1).mono ?_
        rintro e w' ⟨rfl, rfl⟩
        go_wp2
        go_ret
        exact ⟨ret_int (by rw [hv.out]), rfl⟩

/-- SerialIn of a number itself, one of one: is it a serial number? -/
theorem c_SerialIn_self (a : Int) (w : World) : Calls Try.prog 30 #[.int .i64 a, .int .i64 a, .int .i64 1] w fun e w' => e = .returned (.bool (serOk a)) ∧ w = w' := by
  cases h1 : serOk a with
  | false =>
    go_enter Try.func30, Try.ntmps30
    go_wp2_with fail
    refine (c_l3Ok a _).mono ?_
    rintro e w' ⟨rfl, rfl⟩
    go_wp2
    go_ret
    exact ⟨rfl, rfl⟩
  | true =>
    obtain ⟨ha, ha1⟩ := serOk_yes h1
    have h0 : serAdd a (-a) = 0 := by unfold serAdd; omega
    have hin : inB 1 0 32768 = true := by decide
    go_enter Try.func30, Try.ntmps30
    go_wp2_with fail
    refine (c_l3Ok a _).mono ?_
    rintro e w' ⟨rfl, rfl⟩
    go_wp2_with fail
    refine (c_l3Ok a _).mono ?_
    rintro e w' ⟨rfl, rfl⟩
    go_wp2_with fail
    refine (c_l6In 1 0 32768 _).mono ?_
    rintro e w' ⟨rfl, rfl⟩
    go_wp2_with fail
    refine (c_l3Add a (-a) _ ha ha1).mono ?_
    rintro e w' ⟨rfl, rfl⟩
    go_wp2
    go_ret
    exact ⟨rfl, rfl⟩
end Go.Proofs.Ytbleabcobojdcaa
