/-
  Writing a receipt: one value for the program's and the reference's function.
-/
import Derived.Test.YtokjdnfohbabgaaSSackPut
import Derived.Test.YtokjdnfohbabgaaGapsLaw
namespace Go.Proofs.Ytokjdnfohbabgaa
set_option linter.unusedVariables false
set_option linter.unusedSimpArgs false
open Go.RowKit

def spK (cum : Int) (xs : List (Int × Int)) : Int := bif sackOkV cum xs then 3 else 0
def spS (cum : Int) (xs : List (Int × Int)) : ByteArray := bif sackOkV cum xs then sackBody cum xs else ⟨#[]⟩
theorem c_SackPut (cum : Int) (A : Option Addr) (n c : Nat) (xs : List (Int × Int)) (B : Nat) (w : World) (hG : Gaps w B A n xs) (hBw : B ≤ w.heap.size) (hn : n ≤ maxLen) :
    Calls Try.prog 17 #[.agg #[.int .i64 cum, .slice A n c]] w fun e w' => e = .returned (.tuple #[.agg #[.int .i64 (spK cum xs), .int .i64 0, .string (spS cum xs)], .bool (sackOkV cum xs)]) ∧ Below w.heap.size w w' := by
  unfold spK spS
  cases h : sackOkV cum xs with
  | false => exact c_SackPut_no cum A n c xs B w hG hBw hn h
  | true => exact c_SackPut_yes cum A n c xs B w hG hBw h
theorem c_sSackPut (cum : Int) (A : Option Addr) (n c : Nat) (xs : List (Int × Int)) (B : Nat) (w : World) (hG : Gaps w B A n xs) (hBw : B ≤ w.heap.size) (hn : n ≤ maxLen) :
    Calls Try.prog 19 #[.agg #[.int .i64 cum, .slice A n c]] w fun e w' => e = .returned (.tuple #[.agg #[.int .i64 (spK cum xs), .int .i64 0, .string (spS cum xs)], .bool (sackOkV cum xs)]) ∧ Below w.heap.size w w' := by
  unfold spK spS
  cases h : sackOkV cum xs with
  | false => exact c_sSackPut_no cum A n c xs B w hG hBw hn h
  | true => exact c_sSackPut_yes cum A n c xs B w hG hBw h
theorem GRow.alloc {w : World} {g n j : Nat} {xs : List (Int × Int)} (h : GRow w g n j xs) (o : Obj) : GRow (w.alloc o) g n j xs := h.below ((Below.refl w.heap.size w).alloc (Nat.le_refl _) o) h.lt
theorem GRow.drew {w : World} {g n j : Nat} {xs : List (Int × Int)} (h : GRow w g n j xs) : GRow w.drew g n j xs := h
theorem GRow.drewN {w : World} {g n j : Nat} {xs : List (Int × Int)} (h : GRow w g n j xs) (k : Nat) : GRow (w.drewN k) g n j xs := h
end Go.Proofs.Ytokjdnfohbabgaa
