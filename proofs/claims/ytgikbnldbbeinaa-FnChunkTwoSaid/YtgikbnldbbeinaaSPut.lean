/-
  The reference's writing of a chunk.
-/
import Derived.Test.YtgikbnldbbeinaaChunkPut
namespace Go.Proofs.Ytgikbnldbbeinaa
set_option linter.unusedVariables false
set_option linter.unusedSimpArgs false
open Go.RowKit

theorem c_sChunkPut (k f : Int) (s : ByteArray) (w : World) (hs : s.size ≤ maxLen) : Calls Try.prog 15 #[.agg #[.int .i64 k, .int .i64 f, .string s]] w fun e w' => e = .returned (.string (chunkPutV k f s)) ∧ Below w.heap.size w w' := by
  cases h : chunkOk k f s with
  | false =>
    rw [chunkPutV_no h]
    go_enter Try.func15, Try.ntmps15
    go_wp2_with fail
    refine (c_sChunkValid k f s _ hs).mono ?_
    rintro e w1 ⟨rfl, h1⟩
    go_wp2
    go_ret
    exact ⟨rfl, below_step ((Below.refl _ _).alloc (Nat.le_refl _) _) (by simp) h1⟩
  | true =>
    rw [chunkPutV_ok h]
    have h' := h
    unfold chunkOk at h'
    simp at h'
    obtain ⟨hk, hk1, hf, hf1, hs1⟩ := h'
    go_enter Try.func15, Try.ntmps15
    go_wp2_with fail
    refine (c_sChunkValid k f s _ hs).mono ?_
    rintro e w1 ⟨rfl, h1⟩
    obtain ⟨c0, c1, c2, hlt⟩ := box3 h1
    have hB1 := Lib.hid (below_step ((Below.refl w.heap.size w).alloc (Nat.le_refl _) _) (by simp) h1)
    clear h1
    go_wp2_with fail
    refine (c_l11Put k f s _ hk hk1 hf hf1 hs1).mono ?_
    rintro e w2 ⟨rfl, h2⟩
    go_wp2
    go_ret
    exact ⟨rfl, below_step hB1.out hB1.out.size h2⟩
end Go.Proofs.Ytgikbnldbbeinaa
