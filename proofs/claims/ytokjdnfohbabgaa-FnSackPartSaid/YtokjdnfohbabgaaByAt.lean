/-
  The byte and the number at a place of a text (no program in sight).
-/
import Derived.Test.YtokjdnfohbabgaaBase
namespace Go.Proofs.Ytokjdnfohbabgaa
set_option linter.unusedVariables false
set_option linter.unusedSimpArgs false
open Go.RowKit

/-- The byte at a place. -/
def byAt (s : ByteArray) (i : Nat) : Int := ((s.data.getD i 0).toNat : Int)
theorem byAt_range (s : ByteArray) (i : Nat) : 0 ≤ byAt s i ∧ byAt s i ≤ 255 := by
  unfold byAt
  have := (s.data.getD i 0).toNat_lt
  omega
theorem byAt_get (s : ByteArray) (i : Nat) (h : i < s.size) : ((s[i]).toNat : Int) = byAt s i := by
  unfold byAt
  have h2 : i < s.data.size := h
  rw [Array.getD_eq_getD_getElem?, Array.getElem?_eq_getElem h2]
  rfl
/-- The number of the two bytes at a place. -/
def wdAt (s : ByteArray) (i : Nat) : Int := 256 * byAt s i + byAt s (i + 1)
theorem wdAt_range (s : ByteArray) (i : Nat) : 0 ≤ wdAt s i ∧ wdAt s i ≤ 65535 := by
  unfold wdAt
  have := byAt_range s i
  have := byAt_range s (i + 1)
  omega
end Go.Proofs.Ytokjdnfohbabgaa
