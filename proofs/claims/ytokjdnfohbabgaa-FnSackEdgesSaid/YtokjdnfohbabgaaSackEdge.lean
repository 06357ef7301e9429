/-
  Which numbers a valid receipt has, at its edges (no program in sight).
-/
import Derived.Test.YtokjdnfohbabgaaSackHas
import Derived.Test.YtokjdnfohbabgaaSackPut
namespace Go.Proofs.Ytokjdnfohbabgaa
set_option linter.unusedVariables false
set_option linter.unusedSimpArgs false
open Go.RowKit

theorem diff_add (a d : Int) (ha : 0 ≤ a) (ha1 : a < 65536) (hd : -1 ≤ d) (hd1 : d ≤ 100) : serDiff a (serAdd a d) = d := by
  unfold serDiff serAdd
  split <;> omega
theorem add_add (a d e : Int) : serAdd (serAdd a d) e = serAdd a (d + e) := by unfold serAdd; omega
theorem has_add {cum : Int} {xs : List (Int × Int)} (h : sackOkV cum xs = true) (d : Int) (hd : -1 ≤ d) (hd1 : d ≤ 100) : sackHasV cum xs (serAdd cum d) = (decide (d ≤ 0) || inG d xs) := by
  obtain ⟨h1, h2, _, _⟩ := sackOk_yes h
  have r := serAdd_range cum d
  unfold sackHasV
  rw [h, serOk_of r.1 r.2, diff_add cum d h1 (by omega) hd hd1]
  rfl
theorem inG_low {l d : Int} {xs : List (Int × Int)} (h : gapsOk l xs = true) (hd : d ≤ l + 1) : inG d xs = false := by
  induction xs generalizing l with
  | nil => rfl
  | cons g r ih =>
    unfold gapsOk at h
    rw [Bool.and_eq_true] at h
    have h3 := of_decide_eq_true h.1
    unfold inG
    rw [ih h.2 (by omega)]
    simp
    omega
theorem inG_at {l : Int} {xs : List (Int × Int)} (h : gapsOk l xs = true) (j : Nat) (hj : j < xs.length) :
    inG (xs.getD j (0, 0)).1 xs = true ∧ inG (xs.getD j (0, 0)).2 xs = true ∧ inG ((xs.getD j (0, 0)).1 - 1) xs = false ∧ inG ((xs.getD j (0, 0)).2 + 1) xs = false ∧ l + 2 ≤ (xs.getD j (0, 0)).1 ∧ (xs.getD j (0, 0)).1 ≤ (xs.getD j (0, 0)).2 ∧ (xs.getD j (0, 0)).2 ≤ 16 := by
  induction xs generalizing l j with
  | nil => simp at hj
  | cons g r ih =>
    unfold gapsOk at h
    rw [Bool.and_eq_true] at h
    have h3 := of_decide_eq_true h.1
    match j, hj with
    | 0, _ =>
      show inG g.1 (g :: r) = true ∧ inG g.2 (g :: r) = true ∧ inG (g.1 - 1) (g :: r) = false ∧ inG (g.2 + 1) (g :: r) = false ∧ l + 2 ≤ g.1 ∧ g.1 ≤ g.2 ∧ g.2 ≤ 16
      unfold inG
      rw [inG_low h.2 (show g.1 - 1 ≤ g.2 + 1 by omega), inG_low h.2 (show g.2 + 1 ≤ g.2 + 1 by omega)]
      simp
      omega
    | j + 1, hj =>
      obtain ⟨e1, e2, e3, e4, e5, e6, e7⟩ := ih h.2 j (by simpa using hj)
      generalize hy : r.getD j (0, 0) = y at *
      show inG (r.getD j (0, 0)).1 (g :: r) = true ∧ inG (r.getD j (0, 0)).2 (g :: r) = true ∧ inG ((r.getD j (0, 0)).1 - 1) (g :: r) = false ∧ inG ((r.getD j (0, 0)).2 + 1) (g :: r) = false ∧ l + 2 ≤ (r.getD j (0, 0)).1 ∧ (r.getD j (0, 0)).1 ≤ (r.getD j (0, 0)).2 ∧ (r.getD j (0, 0)).2 ≤ 16
      rw [hy]
      unfold inG
      rw [e1, e2, e3, e4]
      simp
      omega
/-- The part behind the last one is missing; the last one and the one ahead of it are there. -/
theorem first_facts {cum : Int} {xs : List (Int × Int)} (h : sackOkV cum xs = true) : sackHasV cum xs cum = true ∧ sackHasV cum xs (serAdd cum (-1)) = true ∧ sackHasV cum xs (serAdd cum 1) = false := by
  obtain ⟨h1, h2, _, hg⟩ := sackOk_yes h
  have h0 := has_add h 0 (by omega) (by omega)
  have e0 : serAdd cum 0 = cum := by unfold serAdd; omega
  rw [e0] at h0
  refine ⟨by rw [h0]; rfl, by rw [has_add h (-1) (by omega) (by omega)]; rfl, ?_⟩
  rw [has_add h 1 (by omega) (by omega), inG_low hg (by omega)]
  rfl
/-- A block's edges are there, the parts beside them are not. -/
theorem edge_facts {cum : Int} {xs : List (Int × Int)} (h : sackOkV cum xs = true) (j : Nat) (hj : j < xs.length) (f t : Int) (hx : xs.getD j (0, 0) = (f, t)) :
    sackHasV cum xs (serAdd cum f) = true ∧ sackHasV cum xs (serAdd cum t) = true ∧ sackHasV cum xs (serAdd (serAdd cum f) (-1)) = false ∧ sackHasV cum xs (serAdd (serAdd cum t) 1) = false := by
  obtain ⟨h1, h2, _, hg⟩ := sackOk_yes h
  obtain ⟨e1, e2, e3, e4, e5, e6, e7⟩ := inG_at hg j hj
  rw [hx] at e1 e2 e3 e4 e5 e6 e7
  simp only at e1 e2 e3 e4 e5 e6 e7
  rw [add_add, add_add, show f + -1 = f - 1 by omega, has_add h f (by omega) (by omega), has_add h t (by omega) (by omega), has_add h (f - 1) (by omega) (by omega), has_add h (t + 1) (by omega) (by omega), e1, e2, e3, e4]
  simp
  omega
end Go.Proofs.Ytokjdnfohbabgaa
