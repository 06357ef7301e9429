/-
  Numbers at places of texts that are joined (no program in sight).
-/
import Derived.Test.YtokjdnfohbabgaaBytes
namespace Go.Proofs.Ytokjdnfohbabgaa
set_option linter.unusedVariables false
set_option linter.unusedSimpArgs false
open Go.RowKit

theorem wdAt_app_l {x y : ByteArray} {i : Nat} (h : i + 1 < x.size) : wdAt (x ++ y) i = wdAt x i := by
  unfold wdAt; rw [byAt_app_l (by omega), byAt_app_l h]
theorem wdAt_app_r {x y : ByteArray} {i : Nat} (h : x.size ≤ i) : wdAt (x ++ y) i = wdAt y (i - x.size) := by
  unfold wdAt; rw [byAt_app_r h, byAt_app_r (by omega), show i + 1 - x.size = i - x.size + 1 by omega]
theorem wdAt_w2_0 (n : Int) (h : 0 ≤ n) (h1 : n ≤ 65535) : wdAt (w2 n) 0 = n := by
  have := wdAt_w2 n h h1
  unfold wdAt; rw [this.1, this.2]; omega
theorem byAt_w2_0 (n : Int) (h : 0 ≤ n) (h1 : n ≤ 65535) : byAt (w2 n) 0 = n / 256 := (wdAt_w2 n h h1).1
theorem byAt_w2_1 (n : Int) (h : 0 ≤ n) (h1 : n ≤ 65535) : byAt (w2 n) 1 = n % 256 := (wdAt_w2 n h h1).2
/-- A text of even size is the row of its numbers. -/
theorem by_words {x y : ByteArray} (h : x.size = y.size) (he : x.size % 2 = 0) (h2 : ∀ i, i + 1 < x.size → i % 2 = 0 → wdAt x i = wdAt y i) : x = y := by
  refine by_ext h fun i hi => ?_
  have key := fun j (hj : j + 1 < x.size) (hj2 : j % 2 = 0) => h2 j hj hj2
  rcases Nat.mod_two_eq_zero_or_one i with hp | hp
  · have := key i (by omega) hp
    unfold wdAt at this
    have r1 := byAt_range x i
    have r2 := byAt_range x (i + 1)
    have r3 := byAt_range y i
    have r4 := byAt_range y (i + 1)
    omega
  · have := key (i - 1) (by omega) (by omega)
    unfold wdAt at this
    rw [show i - 1 + 1 = i by omega] at this
    have r1 := byAt_range x i
    have r2 := byAt_range x (i - 1)
    have r3 := byAt_range y i
    have r4 := byAt_range y (i - 1)
    omega
end Go.Proofs.Ytokjdnfohbabgaa
