/-
  A drawn kind; the names of the kinds.
-/
import Derived.Test.YtbleabcobojdcaaNames
namespace Go.Proofs.Ytbleabcobojdcaa
set_option linter.unusedVariables false
set_option linter.unusedSimpArgs false
open Go.RowKit
theorem c_DrawChunkName (a : Option Addr) (n c : Nat) (w : World) (hC : Code w a n c) :
    Calls Try.prog 21 #[.slice a n c] w (DrInt w (-2) 16) := by
  go_enter Try.func21, Try.ntmps21
  go_wp2_with fail
  refine (c_l6Open a n c w hC).mono ?_
  rintro e w' ⟨g, rfl, hg, hR, hb⟩
  go_wp2_with fail
  refine (c_pick g 0 19 _ hR (by omega) (by omega)).mono ?_
  rintro e w2 ⟨v, rfl, h1, h2, hR2, hgr⟩
  go_wp2_with fail
  go_ret
  exact ⟨_, rfl, by omega, by omega, below_only hb hgr hb.size hg⟩

/-- The names, by kind. -/
def names : List (List UInt8) := [[100, 97, 116, 97], [105, 110, 105, 116], [105, 110, 105, 116, 97, 99, 107], [115, 97, 99, 107], [98, 101, 97, 116], [98, 101, 97, 116, 97, 99, 107], [97, 98, 111, 114, 116], [115, 104, 117, 116], [115, 104, 117, 116, 97, 99, 107], [101, 114, 114, 111, 114], [99, 111, 111, 107, 105, 101], [99, 111, 111, 107, 105, 101, 97, 99, 107], [], [], [115, 104, 117, 116, 100, 111, 110, 101]]
def cname (k : Int) : ByteArray := if 0 ≤ k then ⟨(names.getD k.toNat []).toArray⟩ else ⟨#[]⟩
theorem cname_no (k : Int) (h : k < 0 ∨ 15 ≤ k) : cname k = ⟨#[]⟩ := by
  unfold cname
  by_cases h0 : 0 ≤ k
  · rw [if_pos h0, List.getD_eq_getElem?_getD, List.getElem?_eq_none (by show 15 ≤ k.toNat; omega)]
    rfl
  · rw [if_neg h0]
theorem cname_cases (k : Int) (h : 0 ≤ k) (h1 : k < 15) : k = 0 ∨ k = 1 ∨ k = 2 ∨ k = 3 ∨ k = 4 ∨ k = 5 ∨ k = 6 ∨ k = 7 ∨ k = 8 ∨ k = 9 ∨ k = 10 ∨ k = 11 ∨ k = 12 ∨ k = 13 ∨ k = 14 := by omega

theorem c_ChunkName (k : Int) (w : World) : Calls Try.prog 16 #[.int .i64 k] w fun e w' => e = .returned (.string (cname k)) ∧ Below w.heap.size w w' := by
  by_cases h : 0 ≤ k ∧ k < 12
  · obtain ⟨h0, h1⟩ := h
    go_enter Try.func16, Try.ntmps16
    go_wp2
    go_ret
    refine ⟨?_, (Below.refl _ _).alloc (Nat.le_refl _) _⟩
    rcases cname_cases k h0 (by omega) with rfl | rfl | rfl | rfl | rfl | rfl | rfl | rfl | rfl | rfl | rfl | rfl | rfl | rfl | rfl <;> first | rfl | omega
  · by_cases h14 : k = 14
    · subst h14
      go_enter Try.func16, Try.ntmps16
      go_wp2
      go_ret
      exact ⟨rfl, (Below.refl _ _).alloc (Nat.le_refl _) _⟩
    · have hno : cname k = ⟨#[]⟩ := by
        by_cases h2 : k = 12 ∨ k = 13
        · rcases h2 with rfl | rfl <;> rfl
        · exact cname_no k (by omega)
      have H := Lib.hid hno
      clear hno
      have hb14 : (k == 14) = false := by simpa using h14
      have hlt : decide (0 ≤ k) = true → decide (k < 12) = false := by simp; omega
      by_cases h0 : 0 ≤ k
      · have h12 : 12 ≤ k := by omega
        clear h hlt
        go_enter Try.func16, Try.ntmps16
        go_wp2
        go_ret
        exact ⟨ret_string H.out.symm, (Below.refl _ _).alloc (Nat.le_refl _) _⟩
      · have h12 : k < 0 := by omega
        clear h hlt h0
        go_enter Try.func16, Try.ntmps16
        go_wp2
        go_ret
        exact ⟨ret_string H.out.symm, (Below.refl _ _).alloc (Nat.le_refl _) _⟩

theorem c_sChunkName (k : Int) (w : World) : Calls Try.prog 15 #[.int .i64 k] w fun e w' => e = .returned (.string (cname k)) ∧ Below w.heap.size w w' := by
  by_cases h : 0 ≤ k ∧ k < 15
  · obtain ⟨h0, h1⟩ := h
    have hin : inB k 0 14 = true := by unfold inB; simp; omega
    go_enter Try.func15, Try.ntmps15
    go_wp2_with fail
    refine (c_l6In k 0 14 _).mono ?_
    rintro e w' ⟨rfl, rfl⟩
    go_wp2
    go_ret
    refine ⟨?_, (Below.refl _ _).alloc (Nat.le_refl _) _⟩
    rcases cname_cases k h0 (by omega) with rfl | rfl | rfl | rfl | rfl | rfl | rfl | rfl | rfl | rfl | rfl | rfl | rfl | rfl | rfl <;> first | rfl | omega
  · have hin : inB k 0 14 = false := by unfold inB; simp; omega
    have H := Lib.hid (cname_no k (by omega))
    clear h
    go_enter Try.func15, Try.ntmps15
    go_wp2_with fail
    refine (c_l6In k 0 14 _).mono ?_
    rintro e w' ⟨rfl, rfl⟩
    go_wp2
    go_ret
    exact ⟨ret_string H.out.symm, (Below.refl _ _).alloc (Nat.le_refl _) _⟩
end Go.Proofs.Ytbleabcobojdcaa
