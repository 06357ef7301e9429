/-
  The chunks that the laws draw.
-/
import Derived.Test.YtgikbnldbbeinaaDrawChunk
namespace Go.Proofs.Ytgikbnldbbeinaa
set_option linter.unusedVariables false
set_option linter.unusedSimpArgs false
open Go.RowKit

/-- A drawn chunk, and nothing old turned. -/
def DrChunk (w : World) (e : Ending) (w' : World) : Prop :=
  ∃ (a b : Int) (s : ByteArray), e = .returned (.agg #[.int .i64 a, .int .i64 b, .string s]) ∧ -1 ≤ a ∧ a ≤ 256 ∧ -1 ≤ b ∧ b ≤ 256 ∧ s.size ≤ 62 ∧ Below w.heap.size w w'
theorem c_DrawChunkPut (a : Option Addr) (n c : Nat) (w : World) (hC : Code w a n c) :
    Calls Try.prog 13 #[.slice a n c] w (DrChunk w) := by
  go_enter Try.func13, Try.ntmps13
  go_wp2_with fail
  refine (c_l6Open a n c _ (hC.below ((Below.refl _ _).alloc (Nat.le_refl _) _))).mono ?_
  rintro e w1 ⟨g, rfl, hg, hR, hb⟩
  have hB1 := (Blk.new w 26 #[.int .i64 0, .int .i64 0, .string ⟨#[]⟩]).below hb (by simp)
  have hg2 : w.heap.size < g := by simp at hg; omega
  have B1 := Lib.hid (below_step ((Below.refl w.heap.size w).alloc (Nat.le_refl _) _) (by simp) hb)
  clear hb hg
  go_wp2_with fail
  refine (c_l91Chunk g 0 _ hR (by omega)).mono ?_
  rintro e w2 ⟨x, y, s, rfl, hx0, hx1, hy0, hy1, hs, hR2, hg3⟩
  obtain ⟨c0, c1, c2, c3, c4, c5⟩ := (hB1.grown hg3 (by omega)).get3
  have B2 := Lib.hid (below_only B1.out hg3 B1.out.size (by omega))
  clear hg3 B1 hB1 hR2 hR
  go_wp2
  refine bodyPost_ret (v := .agg #[.int .i64 x, .int .i64 y, .string s]) (by simp [results, Try.results13, go_sem, c0, c1, c2, c3, c4, c5]) rfl ?_
  exact ⟨x, y, s, rfl, hx0, hx1, hy0, hy1, hs, ((B2.out.setCell (Nat.le_refl _) _).setCell (Nat.le_refl _) _).setCell (Nat.le_refl _) _⟩
end Go.Proofs.Ytgikbnldbbeinaa
