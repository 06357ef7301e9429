/-
  What reading a receipt comes to.
-/
import Derived.Test.YtokjdnfohbabgaaOGaps
import Derived.Test.YtokjdnfohbabgaaSackPut
import Derived.Test.YtokjdnfohbabgaaGetWords
namespace Go.Proofs.Ytokjdnfohbabgaa
set_option linter.unusedVariables false
set_option linter.unusedSimpArgs false
open Go.RowKit

/-- The blocks that a receipt's body tells. -/
def sgXs (s : ByteArray) : List (Int × Int) := (List.range (s.size / 4)).map fun i => (wdAt s (2 + 4 * i), wdAt s (4 + 4 * i))
theorem sgXs_length (s : ByteArray) : (sgXs s).length = s.size / 4 := by unfold sgXs; simp
theorem sgXs_get (s : ByteArray) (i : Nat) (h : i < s.size / 4) : (sgXs s).getD i (0, 0) = (wdAt s (2 + 4 * i), wdAt s (4 + 4 * i)) := by
  unfold sgXs
  simp [List.getD_eq_getElem?_getD, h]
theorem sgXs_step (s : ByteArray) (i : Nat) (h : i < s.size / 4) : (sgXs s).take (i + 1) = (sgXs s).take i ++ [(wdAt s (2 + 4 * i), wdAt s (4 + 4 * i))] := by
  rw [take_snocG _ i (by rw [sgXs_length]; exact h), sgXs_get s i h]
def sgHead (k f : Int) (s : ByteArray) : Bool := decide (k = 3 ∧ f = 0 ∧ s.size % 4 = 2)
def sgIn (s : ByteArray) : Bool := sackOkV (wdAt s 0) (sgXs s)
def sgOk (k f : Int) (s : ByteArray) : Bool := sgHead k f s && sgIn s
theorem sgHead_no {k f : Int} {s : ByteArray} (h : sgHead k f s = false) : k ≠ 3 ∨ (k = 3 ∧ f ≠ 0) ∨ (k = 3 ∧ f = 0 ∧ s.size % 4 ≠ 2) := by
  unfold sgHead at h; simp at h; omega
theorem sgHead_yes {k f : Int} {s : ByteArray} (h : sgHead k f s = true) : k = 3 ∧ f = 0 ∧ s.size % 4 = 2 := by
  unfold sgHead at h; simpa using h
def sackNil : Value := .tuple #[.agg #[.int .i64 0, .slice none 0 0], .bool false]
/-- A receipt (or none) is handed back: its blocks lie in a row of the call's own. -/
def SGot (w : World) (cum : Int) (xs : List (Int × Int)) (ok : Bool) (e : Ending) (w' : World) : Prop := ∃ v, e = .returned (.tuple #[.agg #[.int .i64 cum, v], .bool ok]) ∧ OG w' w.heap.size v xs ∧ Below w.heap.size w w'
theorem SGot.no {w w' : World} {e : Ending} (he : e = .returned sackNil) (h : Below w.heap.size w w') : SGot w 0 [] false e w' := ⟨_, he, World.ownsRow_nil _ _ _ _, h⟩
def sgC (k f : Int) (s : ByteArray) : Int := bif sgOk k f s then wdAt s 0 else 0
def sgL (k f : Int) (s : ByteArray) : List (Int × Int) := bif sgOk k f s then sgXs s else []
theorem sg_no {k f : Int} {s : ByteArray} (h : sgOk k f s = false) : sgC k f s = 0 ∧ sgL k f s = [] := by unfold sgC sgL; rw [h]; exact ⟨rfl, rfl⟩
theorem sg_yes {k f : Int} {s : ByteArray} (h : sgOk k f s = true) : sgC k f s = wdAt s 0 ∧ sgL k f s = sgXs s := by unfold sgC sgL; rw [h]; exact ⟨rfl, rfl⟩
end Go.Proofs.Ytokjdnfohbabgaa
