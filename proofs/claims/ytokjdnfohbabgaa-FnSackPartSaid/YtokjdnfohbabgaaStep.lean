/-
  Small steps of worlds: blocks that are known whole, read cell by cell; what lies below a mark.
-/
import Derived.Test.YtokjdnfohbabgaaBlk
import Derived.Test.YtokjdnfohbabgaaReader
namespace Go.Proofs.Ytokjdnfohbabgaa
set_option linter.unusedVariables false
set_option linter.unusedSimpArgs false
open Go.RowKit

theorem below_drew1 {B : Nat} {a w : World} (h : Below B a w) : Below B a w.drew := ⟨h.os, h.tape, h.output, h.size, h.block⟩
theorem Blk.drew {w : World} {g : Nat} {t : TypeId} {cs : Array Value} (h : Blk w g t cs) : Blk w.drew g t cs := h
theorem Blk.drewN {w : World} {g : Nat} {t : TypeId} {cs : Array Value} (h : Blk w g t cs) (n : Nat) : Blk (w.drewN n) g t cs := h
theorem Blk.set0 {w : World} {g : Nat} {t : TypeId} {cs : Array Value} (h : Blk w g t cs) (i : Nat) (u : Value) {ds : Array Value} (hd : cs.setIfInBounds i u = ds) : Blk (w.setCell ⟨g, i, none⟩ u) g t ds := hd ▸ h.set_ i u
theorem Blk.new1 {w : World} {n : Nat} {t : TypeId} {cs : Array Value} (h : w.heap.size = n) : Blk (w.alloc (.cells cs t)) n t cs := h ▸ Blk.new w t cs
theorem Blk.get2 {w : World} {g : Nat} {t : TypeId} {a b : Value} (h : Blk w g t #[a, b]) : w.cell? ⟨g, 0, none⟩ = some a ∧ w.cell? ⟨g, 1, none⟩ = some b ∧ w.frozen? ⟨g, 0, none⟩ = false ∧ w.frozen? ⟨g, 1, none⟩ = false :=
  ⟨h.cell 0, h.cell 1, h.frozen 0, h.frozen 1⟩
theorem Blk.get3n {w : World} {g : Nat} {t : TypeId} {a b c : Value} (h : Blk w g t #[a, b, c]) : (w.cell? ⟨g, 0, none⟩ = some a ∧ w.cell? ⟨g, 1, none⟩ = some b ∧ w.cell? ⟨g, 2, none⟩ = some c) ∧ w.frozen? ⟨g, 0, none⟩ = false ∧ w.frozen? ⟨g, 1, none⟩ = false ∧ w.frozen? ⟨g, 2, none⟩ = false :=
  ⟨⟨h.cell 0, h.cell 1, h.cell 2⟩, h.frozen 0, h.frozen 1, h.frozen 2⟩
theorem Blk.get2n {w : World} {g : Nat} {t : TypeId} {a b : Value} (h : Blk w g t #[a, b]) : (w.cell? ⟨g, 0, none⟩ = some a ∧ w.cell? ⟨g, 1, none⟩ = some b) ∧ w.frozen? ⟨g, 0, none⟩ = false ∧ w.frozen? ⟨g, 1, none⟩ = false :=
  ⟨⟨h.cell 0, h.cell 1⟩, h.frozen 0, h.frozen 1⟩
theorem Blk.get1n {w : World} {g : Nat} {t : TypeId} {a : Value} (h : Blk w g t #[a]) : (w.cell? ⟨g, 0, none⟩ = some a) ∧ w.frozen? ⟨g, 0, none⟩ = false :=
  ⟨h.cell 0, h.frozen 0⟩
theorem Blk.get4 {w : World} {g : Nat} {t : TypeId} {a b c d : Value} (h : Blk w g t #[a, b, c, d]) : (w.cell? ⟨g, 0, none⟩ = some a ∧ w.cell? ⟨g, 1, none⟩ = some b ∧ w.cell? ⟨g, 2, none⟩ = some c ∧ w.cell? ⟨g, 3, none⟩ = some d) ∧ w.frozen? ⟨g, 0, none⟩ = false ∧ w.frozen? ⟨g, 1, none⟩ = false ∧ w.frozen? ⟨g, 2, none⟩ = false ∧ w.frozen? ⟨g, 3, none⟩ = false :=
  ⟨⟨h.cell 0, h.cell 1, h.cell 2, h.cell 3⟩, h.frozen 0, h.frozen 1, h.frozen 2, h.frozen 3⟩
theorem Blk.get7 {w : World} {k : Nat} {t : TypeId} {a b c d e f g : Value} (h : Blk w k t #[a, b, c, d, e, f, g]) :
    (w.cell? ⟨k, 0, none⟩ = some a ∧ w.cell? ⟨k, 1, none⟩ = some b ∧ w.cell? ⟨k, 2, none⟩ = some c ∧ w.cell? ⟨k, 3, none⟩ = some d ∧ w.cell? ⟨k, 4, none⟩ = some e ∧ w.cell? ⟨k, 5, none⟩ = some f ∧ w.cell? ⟨k, 6, none⟩ = some g) ∧
      w.frozen? ⟨k, 0, none⟩ = false ∧ w.frozen? ⟨k, 1, none⟩ = false ∧ w.frozen? ⟨k, 2, none⟩ = false ∧ w.frozen? ⟨k, 3, none⟩ = false ∧ w.frozen? ⟨k, 4, none⟩ = false ∧ w.frozen? ⟨k, 5, none⟩ = false ∧ w.frozen? ⟨k, 6, none⟩ = false :=
  ⟨⟨h.cell 0, h.cell 1, h.cell 2, h.cell 3, h.cell 4, h.cell 5, h.cell 6⟩, h.frozen 0, h.frozen 1, h.frozen 2, h.frozen 3, h.frozen 4, h.frozen 5, h.frozen 6⟩
/-! A store into one cell of a block. -/
theorem Blk.set1_0 {w : World} {g g' : Nat} {t : TypeId} {x0 u : Value} (h : Blk w g t #[x0]) (hg : g' = g) : Blk (w.setCell ⟨g', 0, none⟩ u) g t #[u] := by subst hg; exact h.set0 0 u rfl
theorem Blk.set2_0 {w : World} {g g' : Nat} {t : TypeId} {x0 x1 u : Value} (h : Blk w g t #[x0, x1]) (hg : g' = g) : Blk (w.setCell ⟨g', 0, none⟩ u) g t #[u, x1] := by subst hg; exact h.set0 0 u rfl
theorem Blk.set2_1 {w : World} {g g' : Nat} {t : TypeId} {x0 x1 u : Value} (h : Blk w g t #[x0, x1]) (hg : g' = g) : Blk (w.setCell ⟨g', 1, none⟩ u) g t #[x0, u] := by subst hg; exact h.set0 1 u rfl
theorem Blk.set3_0 {w : World} {g g' : Nat} {t : TypeId} {x0 x1 x2 u : Value} (h : Blk w g t #[x0, x1, x2]) (hg : g' = g) : Blk (w.setCell ⟨g', 0, none⟩ u) g t #[u, x1, x2] := by subst hg; exact h.set0 0 u rfl
theorem Blk.set3_1 {w : World} {g g' : Nat} {t : TypeId} {x0 x1 x2 u : Value} (h : Blk w g t #[x0, x1, x2]) (hg : g' = g) : Blk (w.setCell ⟨g', 1, none⟩ u) g t #[x0, u, x2] := by subst hg; exact h.set0 1 u rfl
theorem Blk.set3_2 {w : World} {g g' : Nat} {t : TypeId} {x0 x1 x2 u : Value} (h : Blk w g t #[x0, x1, x2]) (hg : g' = g) : Blk (w.setCell ⟨g', 2, none⟩ u) g t #[x0, x1, u] := by subst hg; exact h.set0 2 u rfl
theorem Blk.set4_0 {w : World} {g g' : Nat} {t : TypeId} {x0 x1 x2 x3 u : Value} (h : Blk w g t #[x0, x1, x2, x3]) (hg : g' = g) : Blk (w.setCell ⟨g', 0, none⟩ u) g t #[u, x1, x2, x3] := by subst hg; exact h.set0 0 u rfl
theorem Blk.set4_1 {w : World} {g g' : Nat} {t : TypeId} {x0 x1 x2 x3 u : Value} (h : Blk w g t #[x0, x1, x2, x3]) (hg : g' = g) : Blk (w.setCell ⟨g', 1, none⟩ u) g t #[x0, u, x2, x3] := by subst hg; exact h.set0 1 u rfl
theorem Blk.set4_2 {w : World} {g g' : Nat} {t : TypeId} {x0 x1 x2 x3 u : Value} (h : Blk w g t #[x0, x1, x2, x3]) (hg : g' = g) : Blk (w.setCell ⟨g', 2, none⟩ u) g t #[x0, x1, u, x3] := by subst hg; exact h.set0 2 u rfl
theorem Blk.set4_3 {w : World} {g g' : Nat} {t : TypeId} {x0 x1 x2 x3 u : Value} (h : Blk w g t #[x0, x1, x2, x3]) (hg : g' = g) : Blk (w.setCell ⟨g', 3, none⟩ u) g t #[x0, x1, x2, u] := by subst hg; exact h.set0 3 u rfl
theorem Blk.set7_0 {w : World} {g g' : Nat} {t : TypeId} {x0 x1 x2 x3 x4 x5 x6 u : Value} (h : Blk w g t #[x0, x1, x2, x3, x4, x5, x6]) (hg : g' = g) : Blk (w.setCell ⟨g', 0, none⟩ u) g t #[u, x1, x2, x3, x4, x5, x6] := by subst hg; exact h.set0 0 u rfl
theorem Blk.set7_1 {w : World} {g g' : Nat} {t : TypeId} {x0 x1 x2 x3 x4 x5 x6 u : Value} (h : Blk w g t #[x0, x1, x2, x3, x4, x5, x6]) (hg : g' = g) : Blk (w.setCell ⟨g', 1, none⟩ u) g t #[x0, u, x2, x3, x4, x5, x6] := by subst hg; exact h.set0 1 u rfl
theorem Blk.set7_2 {w : World} {g g' : Nat} {t : TypeId} {x0 x1 x2 x3 x4 x5 x6 u : Value} (h : Blk w g t #[x0, x1, x2, x3, x4, x5, x6]) (hg : g' = g) : Blk (w.setCell ⟨g', 2, none⟩ u) g t #[x0, x1, u, x3, x4, x5, x6] := by subst hg; exact h.set0 2 u rfl
theorem Blk.set7_3 {w : World} {g g' : Nat} {t : TypeId} {x0 x1 x2 x3 x4 x5 x6 u : Value} (h : Blk w g t #[x0, x1, x2, x3, x4, x5, x6]) (hg : g' = g) : Blk (w.setCell ⟨g', 3, none⟩ u) g t #[x0, x1, x2, u, x4, x5, x6] := by subst hg; exact h.set0 3 u rfl
theorem Blk.set7_4 {w : World} {g g' : Nat} {t : TypeId} {x0 x1 x2 x3 x4 x5 x6 u : Value} (h : Blk w g t #[x0, x1, x2, x3, x4, x5, x6]) (hg : g' = g) : Blk (w.setCell ⟨g', 4, none⟩ u) g t #[x0, x1, x2, x3, u, x5, x6] := by subst hg; exact h.set0 4 u rfl
theorem Blk.set7_5 {w : World} {g g' : Nat} {t : TypeId} {x0 x1 x2 x3 x4 x5 x6 u : Value} (h : Blk w g t #[x0, x1, x2, x3, x4, x5, x6]) (hg : g' = g) : Blk (w.setCell ⟨g', 5, none⟩ u) g t #[x0, x1, x2, x3, x4, u, x6] := by subst hg; exact h.set0 5 u rfl
theorem Blk.set7_6 {w : World} {g g' : Nat} {t : TypeId} {x0 x1 x2 x3 x4 x5 x6 u : Value} (h : Blk w g t #[x0, x1, x2, x3, x4, x5, x6]) (hg : g' = g) : Blk (w.setCell ⟨g', 6, none⟩ u) g t #[x0, x1, x2, x3, x4, x5, u] := by subst hg; exact h.set0 6 u rfl
/-- The comparisons that a walk meets behind several new blocks. -/
theorem lts {a b : Nat} (h : a < b) : (a < b ∧ a < b + 1 ∧ a < b + 2 ∧ a < b + 3 ∧ a < b + 4 ∧ a < b + 5 ∧ a < b + 6 ∧ a < b + 7 ∧ a < b + 8 ∧ a < b + 9) ∧ a ≠ b ∧ a ≠ b + 1 ∧ a ≠ b + 2 ∧ a ≠ b + 3 ∧ a ≠ b + 4 ∧ a ≠ b + 5 ∧ a ≠ b + 6 ∧ a ≠ b + 7 ∧ a ≠ b + 8 ∧ a ≠ b + 9 := by omega
end Go.Proofs.Ytokjdnfohbabgaa
