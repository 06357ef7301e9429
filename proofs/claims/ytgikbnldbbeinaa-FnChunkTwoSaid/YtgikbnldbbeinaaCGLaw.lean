/-
  Plain laws on chunks in texts that are cut, continued, moved (no program in sight).
-/
import Derived.Test.YtgikbnldbbeinaaChunkLaw
namespace Go.Proofs.Ytgikbnldbbeinaa
set_option linter.unusedVariables false
set_option linter.unusedSimpArgs false
open Go.RowKit

theorem wdAt_congr {s t : ByteArray} {i j : Nat} (h0 : byAt t j = byAt s i) (h1 : byAt t (j + 1) = byAt s (i + 1)) : wdAt t j = wdAt s i := by unfold wdAt; rw [h0, h1]
theorem cgEnd_congr {s t : ByteArray} {a : Nat} (h : cgN t a = cgN s a) : cgEnd t a = cgEnd s a := by unfold cgEnd; rw [h]
theorem CG_cut (s : ByteArray) (a : Nat) (h : CG s a) : ¬ CG (s.extract 0 (cgEnd s a - 1)) a := by
  obtain ⟨h1, h2, h3, h4, h5⟩ := h
  intro hc
  obtain ⟨g1, g2, g3, g4, g5⟩ := hc
  have hE : a + cgN s a ≤ cgEnd s a := by unfold cgEnd; omega
  have hz := size_extract s 0 (cgEnd s a - 1) (by omega)
  have e2 := byAt_extract s 0 (cgEnd s a - 1) (a + 2) (by omega) (by omega)
  have e3 := byAt_extract s 0 (cgEnd s a - 1) (a + 2 + 1) (by omega) (by omega)
  rw [Nat.zero_add] at e2 e3
  have hw := wdAt_congr e2 e3
  have hn : cgN (s.extract 0 (cgEnd s a - 1)) a = cgN s a := by unfold cgN; rw [hw]
  have : cgEnd (s.extract 0 (cgEnd s a - 1)) a = cgEnd s a := cgEnd_congr hn
  omega
/-- Another byte in the place of the last zero. -/
theorem CG_pad (s : ByteArray) (a : Nat) (h : CG s a) (hne : cgEnd s a ≠ a + cgN s a) : byAt s (cgEnd s a - 1) = 0 ∧ ¬ CG (s.extract 0 (cgEnd s a - 1) ++ by1 1) a := by
  obtain ⟨h1, h2, h3, h4, h5⟩ := h
  have hE : a + cgN s a ≤ cgEnd s a := by unfold cgEnd; omega
  refine ⟨h5 _ (by omega) (by omega), fun hc => ?_⟩
  obtain ⟨g1, g2, g3, g4, g5⟩ := hc
  have hz := size_extract s 0 (cgEnd s a - 1) (by omega)
  have e2 : byAt (s.extract 0 (cgEnd s a - 1) ++ by1 1) (a + 2) = byAt s (a + 2) := by
    rw [byAt_app_l (by omega), byAt_extract s 0 _ (a + 2) (by omega) (by omega), Nat.zero_add]
  have e3 : byAt (s.extract 0 (cgEnd s a - 1) ++ by1 1) (a + 2 + 1) = byAt s (a + 2 + 1) := by
    rw [byAt_app_l (by omega), byAt_extract s 0 _ (a + 2 + 1) (by omega) (by omega), Nat.zero_add]
  have hw := wdAt_congr e2 e3
  have hn : cgN (s.extract 0 (cgEnd s a - 1) ++ by1 1) a = cgN s a := by unfold cgN; rw [hw]
  have he : cgEnd (s.extract 0 (cgEnd s a - 1) ++ by1 1) a = cgEnd s a := cgEnd_congr hn
  have := g5 (cgEnd s a - 1) (by omega) (by omega)
  rw [byAt_app_r (by omega), hz] at this
  have e1 : byAt (by1 1) (cgEnd s a - 1 - (cgEnd s a - 1 - 0)) = 1 := by
    rw [show cgEnd s a - 1 - (cgEnd s a - 1 - 0) = 0 by omega]; rfl
  omega
/-- What follows does not matter. -/
theorem CG_more (s x : ByteArray) (a : Nat) (h : CG s a) :
    CG (s.extract 0 (cgEnd s a) ++ x) a ∧ cgYes (s.extract 0 (cgEnd s a) ++ x) a = cgYes s a := by
  have h4 := h.2.2.2.1
  have hlo : a + 4 ≤ cgEnd s a := by have := h.2.1; unfold cgEnd; omega
  have hz := size_extract s 0 (cgEnd s a) h4
  obtain ⟨g1, g2, g3, g4, g5⟩ := CG_move s (s.extract 0 (cgEnd s a) ++ x) a a h (by rw [ByteArray.size_append]; omega) (fun i hi => by
    rw [byAt_app_l (by omega), byAt_extract s 0 _ (a + i) (by omega) h4, Nat.zero_add])
  refine ⟨g1, ?_⟩
  unfold cgYes
  rw [g2, g3, g4, g5, show a + (cgEnd s a - a) = cgEnd s a by omega]
/-- A chunk may be anywhere. -/
theorem CG_shift (s x : ByteArray) (a : Nat) (h : CG s a) :
    CG (x ++ s) (a + x.size) ∧ cgYes (x ++ s) (a + x.size) = .tuple #[.agg #[.int .i64 (byAt s a), .int .i64 (byAt s (a + 1)), .string (s.extract (a + 4) (a + cgN s a))], .int .i64 ((cgEnd s a + x.size : Nat) : Int), .bool true] := by
  have h4 := h.2.2.2.1
  have hlo : a + 4 ≤ cgEnd s a := by have := h.2.1; unfold cgEnd; omega
  obtain ⟨g1, g2, g3, g4, g5⟩ := CG_move s (x ++ s) a (a + x.size) h (by rw [ByteArray.size_append]; omega) (fun i hi => by
    rw [byAt_app_r (by omega)]; congr 1; omega)
  refine ⟨g1, ?_⟩
  unfold cgYes
  rw [g2, g3, g4, g5, show a + x.size + (cgEnd s a - a) = cgEnd s a + x.size by omega]
/-- A chunk behind a text. -/
theorem CG_behind (x : ByteArray) (k f : Int) (b : ByteArray) (hk : 0 ≤ k) (hk1 : k ≤ 255) (hf : 0 ≤ f) (hf1 : f ≤ 255) (hb : b.size ≤ 60) :
    CG (x ++ cput k f b) x.size ∧ cgYes (x ++ cput k f b) x.size = .tuple #[.agg #[.int .i64 k, .int .i64 f, .string b], .int .i64 ((x.size + (cput k f b).size : Nat) : Int), .bool true] := by
  obtain ⟨g1, g2, g3, g4, g5, g6⟩ := CG_of (x ++ cput k f b) x.size k f b hk hk1 hf hf1 hb (by rw [ByteArray.size_append]; omega) (fun i hi => by
    rw [byAt_app_r (by omega)]; congr 1; omega)
  refine ⟨g1, ?_⟩
  unfold cgYes
  rw [g2, g3, g4, g5]
/-- There is no chunk behind the end. -/
theorem CG_end (x : ByteArray) : ∀ n : Nat, ((x.size : Nat) : Int) = n → ¬ CG x n := fun n e h => by
  have := h.1; omega
end Go.Proofs.Ytgikbnldbbeinaa
