/-
  Two receipts of the same number and blocks are held to be equal.
-/
import Derived.Test.YtokjdnfohbabgaaGapsLaw
import Derived.Deep.QuietTactic
import Derived.BigQuiet
namespace Go.Proofs.Ytokjdnfohbabgaa
set_option linter.unusedVariables false
set_option linter.unusedSimpArgs false
open Go.RowKit

set_option maxHeartbeats 2000000 in
theorem c_sameGaps (A A' : Option Addr) (n c c' : Nat) (xs : List (Int × Int)) (B : Nat) (w : World) (hG : Gaps w B A n xs) (hG' : Gaps w B A' n xs) (hBw : B ≤ w.heap.size) (hn : n ≤ maxLen) :
    Calls Try.prog 41 #[.slice A n c, .slice A' n c'] w fun e w' => e = .returned (.bool true) ∧ Below w.heap.size w w' := by
  unfold maxLen at hn
  have hnn : ((n : Int) != (n : Int)) = false := by simp
  have B0 := Lib.hid (Below.refl w.heap.size w)
  go_enter Try.func41, Try.ntmps41
  go_wp2
  go_loopw [5] (fun i wr => ∃ j : Nat, j ≤ n ∧ i = .int .i64 j ∧ Below w.heap.size w wr) (fun i _ => n - (intOf i).toNat)
  case atStart => exact ⟨0, Nat.zero_le _, rfl, by (repeat' (first | with_reducible exact B0.out | with_reducible exact Below.refl _ _ | with_reducible refine below_drew1 ?_ | with_reducible refine below_drewN ?_ _ | with_reducible refine Below.alloc ?_ ?_ _ | with_reducible refine Below.setCell ?_ ?_ _ | omega | (simp; done) | (simp; omega)))⟩
  case round =>
    obtain ⟨j, hj, rfl, hB⟩ := hrel
    have B1 := Lib.hid hB
    by_cases hlt : j < n
    · obtain ⟨b, o, rfl, hb, hc⟩ := hG.2 (by omega)
      obtain ⟨b', o', rfl, hb', hc'⟩ := hG'.2 (by omega)
      obtain ⟨c0, c1⟩ := hc j hlt
      obtain ⟨c2, c3⟩ := hc' j hlt
      have hb := Nat.lt_of_lt_of_le hb hBw
      have hb' := Nat.lt_of_lt_of_le hb' hBw
      have d0 := (B1.out.cell (p := ⟨b, o + j * 2, none⟩) hb).trans c0
      have d1 := (B1.out.cell (p := ⟨b, o + j * 2 + 1, none⟩) hb).trans c1
      have d2 := (B1.out.cell (p := ⟨b', o' + j * 2, none⟩) hb').trans c2
      have d3 := (B1.out.cell (p := ⟨b', o' + j * 2 + 1, none⟩) hb').trans c3
      generalize xs.getD j (0, 0) = g at *
      obtain ⟨f, t⟩ := g
      clear hc hc' c0 c1 c2 c3 hG hG' hBw hB
      simp only at d0 d1 d2 d3
      have hjn : (j : Int) < (n : Int) := by omega
      have hj0 : (0 : Int) ≤ (j : Int) := by omega
      have q1 : (f == f) = true := by simp
      have q2 : (t == t) = true := by simp
      go_wp2_with fail
      go_quiet (fail)
      go_wp2
      go_roundw
      case rel => exact ⟨j + 1, by omega, by go_num, by (repeat' (first | with_reducible exact B1.out | with_reducible exact Below.refl _ _ | with_reducible refine below_drew1 ?_ | with_reducible refine below_drewN ?_ _ | with_reducible refine Below.alloc ?_ ?_ _ | with_reducible refine Below.setCell ?_ ?_ _ | omega | (simp; done) | (simp; omega)))⟩
      case measure => simp [intOf]; omega
    · have hje : j = n := by omega
      subst hje
      go_wp2
      go_ret
      exact ⟨rfl, hB⟩
theorem c_sameSack (cum : Int) (A A' : Option Addr) (n c c' : Nat) (xs : List (Int × Int)) (B : Nat) (w : World) (hG : Gaps w B A n xs) (hG' : Gaps w B A' n xs) (hBw : B ≤ w.heap.size) (hn : n ≤ maxLen) :
    Calls Try.prog 16 #[.agg #[.int .i64 cum, .slice A n c], .agg #[.int .i64 cum, .slice A' n c']] w fun e w' => e = .returned (.bool true) ∧ Below w.heap.size w w' := by
  have h1 : ∀ k : Int, (k == k) = true := fun k => by simp
  have B0 := Lib.hid (Below.refl w.heap.size w)
  go_enter Try.func16, Try.ntmps16
  go_wp2_with fail
  refine (c_sameGaps A A' n c c' xs B _ (by (repeat' (first | (with_reducible exact hG) | with_reducible refine Gaps.alloc ?_ ?_ _ | with_reducible refine Gaps.setCell ?_ ?_ _ | with_reducible refine Gaps.drew ?_ | with_reducible refine Gaps.drewN ?_ _ | omega | (simp; done) | (simp; omega)))) (by (repeat' (first | (with_reducible exact hG') | with_reducible refine Gaps.alloc ?_ ?_ _ | with_reducible refine Gaps.setCell ?_ ?_ _ | with_reducible refine Gaps.drew ?_ | with_reducible refine Gaps.drewN ?_ _ | omega | (simp; done) | (simp; omega)))) (by first | omega | (simp; done) | (simp; omega)) hn).mono ?_
  rintro e w1 ⟨rfl, h1⟩
  have B1 := Lib.hid (below_step (B := w.heap.size) (w0 := w) (by (repeat' (first | with_reducible exact B0.out | with_reducible exact Below.refl _ _ | with_reducible refine below_drew1 ?_ | with_reducible refine below_drewN ?_ _ | with_reducible refine Below.alloc ?_ ?_ _ | with_reducible refine Below.setCell ?_ ?_ _ | omega | (simp; done) | (simp; omega)))) (by have := B0.out.size; (first | omega | (simp; done) | (simp; omega))) h1)
  have z1 : w.heap.size ≤ w1.heap.size := B1.out.size
  clear h1 B0
  go_wp2
  go_ret
  exact ⟨rfl, by (repeat' (first | with_reducible exact B1.out | with_reducible exact Below.refl _ _ | with_reducible refine below_drew1 ?_ | with_reducible refine below_drewN ?_ _ | with_reducible refine Below.alloc ?_ ?_ _ | with_reducible refine Below.setCell ?_ ?_ _ | omega | (simp; done) | (simp; omega)))⟩
end Go.Proofs.Ytokjdnfohbabgaa
