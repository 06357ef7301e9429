/-
  A part's chunk read back, and a part written back (no program in sight).
-/
import Derived.Test.YtegjbhngkhdcfaaDataGet
import Derived.Test.YtegjbhngkhdcfaaInitBack
namespace Go.Proofs.Ytegjbhngkhdcfaa
set_option linter.unusedVariables false
set_option linter.unusedSimpArgs false
open Go.RowKit

theorem words3_size (a b c : Int) : (wordsV [a, b, c]).size = 6 := by rw [wordsV_size]; rfl
theorem dataBody_at (a b c : Int) (s : ByteArray) (h : dataOkV a b c s = true) : wdAt (dataBody a b c s) 0 = a ∧ wdAt (dataBody a b c s) 2 = b ∧ wdAt (dataBody a b c s) 4 = c := by
  obtain ⟨ha, ha1, hb, hb1, hc, hc1, hd, hd1⟩ := dataOk_yes h
  have hz := words3_size a b c
  unfold dataBody
  refine ⟨?_, ?_, ?_⟩
  · rw [wdAt_app_l (by omega)]
    unfold wordsV
    rw [wdAt_app_l (by rw [w2_size]; omega), wdAt_w2_0 _ ha ha1]
  · rw [wdAt_app_l (by omega)]
    unfold wordsV wordsV
    rw [wdAt_app_r (by rw [w2_size]; omega), w2_size, wdAt_app_l (by rw [w2_size]; omega), wdAt_w2_0 _ hb hb1]
  · rw [wdAt_app_l (by omega)]
    unfold wordsV wordsV wordsV
    rw [wdAt_app_r (by rw [w2_size]; omega), w2_size, wdAt_app_r (by rw [w2_size]; omega), w2_size, wdAt_app_l (by rw [w2_size]; omega), wdAt_w2_0 _ hc hc1]
theorem dataBody_text (a b c : Int) (s : ByteArray) : (dataBody a b c s).extract 6 (dataBody a b c s).size = s := by
  have hz := dataBody_size a b c s
  refine by_ext (by rw [size_extract _ _ _ (Nat.le_refl _), hz]; omega) fun i hi => ?_
  rw [size_extract _ _ _ (Nat.le_refl _), hz] at hi
  rw [byAt_extract _ _ _ _ (by omega) (Nat.le_refl _)]
  unfold dataBody
  rw [byAt_app_r (by rw [words3_size]; omega), words3_size, show 6 + i - 6 = i by omega]
theorem flags_back (f l o : Bool) : fF (flagsV f l o) = f ∧ fL (flagsV f l o) = l ∧ fO (flagsV f l o) = o := by
  cases f <;> cases l <;> cases o <;> decide
theorem flags_forth (f : Int) (h : 0 ≤ f) (h1 : f ≤ 7) : flagsV (fF f) (fL f) (fO f) = f := by
  rcases (show f = 0 ∨ f = 1 ∨ f = 2 ∨ f = 3 ∨ f = 4 ∨ f = 5 ∨ f = 6 ∨ f = 7 by omega) with rfl | rfl | rfl | rfl | rfl | rfl | rfl | rfl <;> decide
/-- What is read is what was written. -/
theorem dg_back (a b c : Int) (f l o : Bool) (s : ByteArray) (h : dataOkV a b c s = true) : dgV 0 (flagsV f l o) (dataBody a b c s) = .tuple #[.agg #[.int .i64 a, .int .i64 b, .int .i64 c, .bool f, .bool l, .bool o, .string s], .bool true] := by
  obtain ⟨e1, e2, e3⟩ := dataBody_at a b c s h
  obtain ⟨g1, g2, g3⟩ := flags_back f l o
  obtain ⟨r0, r1⟩ := flagsV_range f l o
  have e4 := dataBody_text a b c s
  have hh : dgHead 0 (flagsV f l o) (dataBody a b c s) = true := by unfold dgHead; simp [dataBody_size]; omega
  have hi : dgIn (dataBody a b c s) = true := by unfold dgIn; rw [e1, e2, e3, e4]; exact h
  rw [dgV_yes (show dgOk 0 (flagsV f l o) (dataBody a b c s) = true by unfold dgOk; rw [hh, hi]; rfl)]
  unfold dgYes
  rw [e1, e2, e3, e4, g1, g2, g3]
/-- What is written is what was read. -/
theorem dg_forth (s : ByteArray) (h : dgIn s = true) (hs : 6 ≤ s.size) : dataBody (wdAt s 0) (wdAt s 2) (wdAt s 4) (s.extract 6 s.size) = s := by
  obtain ⟨e1, e2, e3⟩ := dataBody_at _ _ _ _ h
  have hz := dataBody_size (wdAt s 0) (wdAt s 2) (wdAt s 4) (s.extract 6 s.size)
  rw [size_extract _ _ _ (Nat.le_refl _)] at hz
  refine by_ext (by omega) fun i hi => ?_
  by_cases h6 : i < 6
  · have key : ∀ (t : ByteArray) (j : Nat), wdAt t j = wdAt s j → byAt t j = byAt s j ∧ byAt t (j + 1) = byAt s (j + 1) := fun t j ht => by
      unfold wdAt at ht
      have r1 := byAt_range t j
      have r2 := byAt_range t (j + 1)
      have r3 := byAt_range s j
      have r4 := byAt_range s (j + 1)
      omega
    have k1 := key _ 0 e1
    have k2 := key _ 2 e2
    have k3 := key _ 4 e3
    generalize dataBody (wdAt s 0) (wdAt s 2) (wdAt s 4) (s.extract 6 s.size) = t at *
    rcases (show i = 0 ∨ i = 1 ∨ i = 2 ∨ i = 3 ∨ i = 4 ∨ i = 5 by omega) with rfl | rfl | rfl | rfl | rfl | rfl
    · exact k1.1
    · exact k1.2
    · exact k2.1
    · exact k2.2
    · exact k3.1
    · exact k3.2
  · unfold dataBody
    rw [byAt_app_r (by rw [words3_size]; omega), words3_size, byAt_extract _ _ _ _ (by omega) (Nat.le_refl _), show 6 + (i - 6) = i by omega]
theorem dgOk_yes {k f : Int} {s : ByteArray} (h : dgOk k f s = true) : k = 0 ∧ 0 ≤ f ∧ f ≤ 7 ∧ 6 ≤ s.size ∧ dgIn s = true := by
  unfold dgOk at h
  rw [Bool.and_eq_true] at h
  obtain ⟨h1, h2, h3, h4⟩ := dgHead_yes h.1
  exact ⟨h1, h2, h3, h4, h.2⟩
theorem dgOk_kind {k f : Int} {s : ByteArray} (h : k ≠ 0) : dgOk k f s = false := by
  unfold dgOk dgHead; simp [h]
theorem dgOk_flags {f : Int} {s : ByteArray} (h : 7 < f) : dgOk 0 f s = false := by
  unfold dgOk dgHead; simp; omega
theorem dgOk_short {f : Int} {s : ByteArray} (h : s.size = 6) : dgOk 0 f s = false := by
  unfold dgOk dgIn dataOkV
  have : (s.extract 6 s.size).size = 0 := by rw [size_extract _ _ _ (Nat.le_refl _)]; omega
  simp [this]
end Go.Proofs.Ytegjbhngkhdcfaa
