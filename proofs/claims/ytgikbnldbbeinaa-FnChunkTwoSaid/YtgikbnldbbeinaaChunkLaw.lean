/-
  Plain laws on where chunks are (no program in sight).
-/
import Derived.Test.YtgikbnldbbeinaaSChunkGet
namespace Go.Proofs.Ytgikbnldbbeinaa
set_option linter.unusedVariables false
set_option linter.unusedSimpArgs false
open Go.RowKit

/-- Where the bytes of a chunk are, there is this chunk. -/
theorem CG_of (s : ByteArray) (a : Nat) (k f : Int) (b : ByteArray) (hk : 0 ≤ k) (hk1 : k ≤ 255) (hf : 0 ≤ f) (hf1 : f ≤ 255) (hb : b.size ≤ 60)
    (h : a + (cput k f b).size ≤ s.size) (he : ∀ i, i < (cput k f b).size → byAt s (a + i) = byAt (cput k f b) i) :
    CG s a ∧ byAt s a = k ∧ byAt s (a + 1) = f ∧ s.extract (a + 4) (a + cgN s a) = b ∧ cgEnd s a = a + (cput k f b).size ∧ cgN s a = 4 + b.size := by
  have hsz := cput_size k f b
  have hp : padN (4 + b.size) ≤ 3 := by unfold padN; omega
  have ka : ∀ i, i < (cput k f b).size → byAt s (a + i) = if i = 0 then k else if i = 1 then f else if i = 2 then 0 else if i = 3 then 4 + b.size else if i < 4 + b.size then byAt b (i - 4) else 0 := fun i hi => by
    rw [he i hi, cput_at k f b hk hk1 hf hf1 hb]
  have k0 : byAt s a = k := by have := ka 0 (by omega); simpa using this
  have k1 : byAt s (a + 1) = f := by have := ka 1 (by omega); simpa using this
  have k2 : byAt s (a + 2) = 0 := by have := ka 2 (by omega); simpa using this
  have k3 : byAt s (a + 3) = 4 + b.size := by have := ka 3 (by omega); simpa using this
  have hn : cgN s a = 4 + b.size := by unfold cgN wdAt; rw [k2, show a + 2 + 1 = a + 3 by omega, k3]; omega
  have hend : cgEnd s a = a + (cput k f b).size := by unfold cgEnd; rw [hn, hsz]; unfold padN; omega
  refine ⟨⟨by omega, by omega, by omega, by omega, fun i hi hi2 => ?_⟩, k0, k1, ?_, hend, hn⟩
  · have := ka (i - a) (by omega)
    rw [if_neg (by omega), if_neg (by omega), if_neg (by omega), if_neg (by omega), if_neg (by omega), show a + (i - a) = i by omega] at this
    exact this
  · have hes : (s.extract (a + 4) (a + cgN s a)).size = b.size := by rw [size_extract _ _ _ (by omega)]; omega
    refine by_ext hes (fun i hi => ?_)
    rw [hes] at hi
    rw [byAt_extract _ _ _ _ (by omega) (by omega)]
    have := ka (i + 4) (by omega)
    rw [if_neg (by omega), if_neg (by omega), if_neg (by omega), if_neg (by omega), if_pos (by omega), show a + (i + 4) = a + 4 + i by omega, show i + 4 - 4 = i by omega] at this
    exact this
/-- The chunk that is at a place is valid, and its bytes are there. -/
theorem CG_put (s : ByteArray) (a : Nat) (h : CG s a) :
    chunkOk (byAt s a) (byAt s (a + 1)) (s.extract (a + 4) (a + cgN s a)) = true ∧ (s.extract (a + 4) (a + cgN s a)).size = cgN s a - 4 ∧ chunkPutV (byAt s a) (byAt s (a + 1)) (s.extract (a + 4) (a + cgN s a)) = s.extract a (cgEnd s a) ∧ a + (cgText s a).size = cgEnd s a := by
  obtain ⟨h1, h2, h3, h4, h5⟩ := (CG_text s a).1 h
  have r0 := byAt_range s a
  have r1 := byAt_range s (a + 1)
  have hle : a + cgN s a ≤ cgEnd s a := by unfold cgEnd; omega
  have hb : (s.extract (a + 4) (a + cgN s a)).size = cgN s a - 4 := by rw [size_extract _ _ _ (by omega)]; omega
  have hok : chunkOk (byAt s a) (byAt s (a + 1)) (s.extract (a + 4) (a + cgN s a)) = true := by unfold chunkOk; simp; omega
  refine ⟨hok, hb, ?_, cgText_size s a h2 (by omega)⟩
  rw [chunkPutV_ok hok, h5]
  rfl
/-- A chunk that is at a place is at the same place of every other text with the same bytes there. -/
theorem CG_move (s t : ByteArray) (a b : Nat) (h : CG s a) (ht : b + (cgEnd s a - a) ≤ t.size) (he : ∀ i, i < cgEnd s a - a → byAt t (b + i) = byAt s (a + i)) :
    CG t b ∧ byAt t b = byAt s a ∧ byAt t (b + 1) = byAt s (a + 1) ∧ t.extract (b + 4) (b + cgN t b) = s.extract (a + 4) (a + cgN s a) ∧ cgEnd t b = b + (cgEnd s a - a) := by
  obtain ⟨hok, hb, hput, hsz⟩ := CG_put s a h
  obtain ⟨h1, h2, h3, h4, h5⟩ := (CG_text s a).1 h
  have r0 := byAt_range s a
  have r1 := byAt_range s (a + 1)
  have hL : (cgText s a).size = cgEnd s a - a := by omega
  have := CG_of t b (byAt s a) (byAt s (a + 1)) (s.extract (a + 4) (a + cgN s a)) r0.1 r0.2 r1.1 r1.2 (by omega) (by show b + (cgText s a).size ≤ _; omega) (fun i hi => by
    have hi' : i < (cgText s a).size := hi
    rw [he i (by omega)]
    show _ = byAt (cgText s a) i
    rw [← h5, byAt_extract _ _ _ _ (by omega) h4])
  obtain ⟨g1, g2, g3, g4, g5, g6⟩ := this
  refine ⟨g1, g2, g3, g4, ?_⟩
  rw [g5]; show b + (cgText s a).size = _; omega
end Go.Proofs.Ytgikbnldbbeinaa
