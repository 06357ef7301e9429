/-
  An init's body read back, and an init written back (no program in sight).
-/
import Derived.Test.YtegjbhngkhdcfaaInitGet
import Derived.Test.YtegjbhngkhdcfaaBytes
namespace Go.Proofs.Ytegjbhngkhdcfaa
set_option linter.unusedVariables false
set_option linter.unusedSimpArgs false
open Go.RowKit

theorem wdAt_app_l {x y : ByteArray} {i : Nat} (h : i + 1 < x.size) : wdAt (x ++ y) i = wdAt x i := by
  unfold wdAt; rw [byAt_app_l (by omega), byAt_app_l h]
theorem wdAt_app_r {x y : ByteArray} {i : Nat} (h : x.size ≤ i) : wdAt (x ++ y) i = wdAt y (i - x.size) := by
  unfold wdAt; rw [byAt_app_r h, byAt_app_r (by omega), show i + 1 - x.size = i - x.size + 1 by omega]
theorem wdAt_w2_0 (n : Int) (h : 0 ≤ n) (h1 : n ≤ 65535) : wdAt (w2 n) 0 = n := by
  have := wdAt_w2 n h h1
  unfold wdAt; rw [this.1, this.2]; omega
theorem initBody_at (a b c d : Int) (h : initOkV a b c d = true) : lgAt (initBody a b c d) 0 = a ∧ wdAt (initBody a b c d) 4 = b ∧ wdAt (initBody a b c d) 6 = c ∧ wdAt (initBody a b c d) 8 = d := by
  obtain ⟨ha, ha1, hb, hb1, hc, hc1, hd, hd1⟩ := initOk_yes h
  unfold initBody wordsV wordsV wordsV wordsV
  refine ⟨?_, ?_, ?_, ?_⟩
  · unfold lgAt
    rw [wdAt_app_l (by rw [w4_size]; omega), wdAt_app_l (by rw [w4_size]; omega)]
    unfold w4
    rw [wdAt_app_l (by rw [w2_size]; omega), wdAt_app_r (by rw [w2_size]; omega), w2_size, wdAt_w2_0 _ (by omega) (by omega), wdAt_w2_0 _ (by omega) (by omega)]
    omega
  · rw [wdAt_app_r (by rw [w4_size]; omega), w4_size, wdAt_app_l (by rw [w2_size]; omega), wdAt_w2_0 _ hb hb1]
  · rw [wdAt_app_r (by rw [w4_size]; omega), w4_size, wdAt_app_r (by rw [w2_size]; omega), w2_size, wdAt_app_l (by rw [w2_size]; omega), wdAt_w2_0 _ (by omega) (by omega)]
  · rw [wdAt_app_r (by rw [w4_size]; omega), w4_size, wdAt_app_r (by rw [w2_size]; omega), w2_size, wdAt_app_r (by rw [w2_size]; omega), w2_size, wdAt_app_l (by rw [w2_size]; omega), wdAt_w2_0 _ hd hd1]
/-- What is read is what was written. -/
theorem ig_back (k a b c d : Int) (hk : k = 1 ∨ k = 2) (h : initOkV a b c d = true) : igV k 0 (initBody a b c d) = .tuple #[.agg #[.int .i64 a, .int .i64 b, .int .i64 c, .int .i64 d], .bool true] := by
  obtain ⟨e1, e2, e3, e4⟩ := initBody_at a b c d h
  have hh : igHead k 0 (initBody a b c d) = true := by unfold igHead; simp [initBody_size, hk]
  have hi : igIn (initBody a b c d) = true := by unfold igIn; rw [e1, e2, e3, e4]; exact h
  rw [igV_yes (show igOk k 0 (initBody a b c d) = true by unfold igOk; rw [hh, hi]; rfl)]
  unfold initYes
  rw [e1, e2, e3, e4]
theorem byAt_w2_0 (n : Int) (h : 0 ≤ n) (h1 : n ≤ 65535) : byAt (w2 n) 0 = n / 256 := (wdAt_w2 n h h1).1
theorem byAt_w2_1 (n : Int) (h : 0 ≤ n) (h1 : n ≤ 65535) : byAt (w2 n) 1 = n % 256 := (wdAt_w2 n h h1).2
/-- A text of even size is the row of its numbers. -/
theorem by_words {x y : ByteArray} (h : x.size = y.size) (he : x.size % 2 = 0) (h2 : ∀ i, i + 1 < x.size → i % 2 = 0 → wdAt x i = wdAt y i) : x = y := by
  refine by_ext h fun i hi => ?_
  have key := fun j (hj : j + 1 < x.size) (hj2 : j % 2 = 0) => h2 j hj hj2
  rcases Nat.mod_two_eq_zero_or_one i with hp | hp
  · have := key i (by omega) hp
    unfold wdAt at this
    have r1 := byAt_range x i
    have r2 := byAt_range x (i + 1)
    have r3 := byAt_range y i
    have r4 := byAt_range y (i + 1)
    omega
  · have := key (i - 1) (by omega) (by omega)
    unfold wdAt at this
    rw [show i - 1 + 1 = i by omega] at this
    have r1 := byAt_range x i
    have r2 := byAt_range x (i - 1)
    have r3 := byAt_range y i
    have r4 := byAt_range y (i - 1)
    omega
/-- What is written is what was read. -/
theorem ig_forth (s : ByteArray) (h : igIn s = true) (hs : s.size = 10) : initBody (lgAt s 0) (wdAt s 4) (wdAt s 6) (wdAt s 8) = s := by
  obtain ⟨e1, e2, e3, e4⟩ := initBody_at _ _ _ _ h
  have hz := initBody_size (lgAt s 0) (wdAt s 4) (wdAt s 6) (wdAt s 8)
  generalize initBody (lgAt s 0) (wdAt s 4) (wdAt s 6) (wdAt s 8) = t at *
  refine by_words (by omega) (by omega) fun i hi hp => ?_
  have g1 : wdAt t 0 = wdAt s 0 ∧ wdAt t 2 = wdAt s 2 := by
    unfold lgAt at e1
    have r1 := wdAt_range t 0
    have r2 := wdAt_range t (0 + 2)
    have r3 := wdAt_range s 0
    have r4 := wdAt_range s (0 + 2)
    constructor
    · omega
    · show wdAt t (0 + 2) = wdAt s (0 + 2); omega
  rcases (show i = 0 ∨ i = 2 ∨ i = 4 ∨ i = 6 ∨ i = 8 by omega) with rfl | rfl | rfl | rfl | rfl
  · exact g1.1
  · exact g1.2
  · exact e2
  · exact e3
  · exact e4
theorem igOk_yes {k f : Int} {s : ByteArray} (h : igOk k f s = true) : (k = 1 ∨ k = 2) ∧ f = 0 ∧ s.size = 10 ∧ igIn s = true := by
  unfold igOk at h
  rw [Bool.and_eq_true] at h
  obtain ⟨h1, h2, h3⟩ := igHead_yes h.1
  exact ⟨h1, h2, h3, h.2⟩
end Go.Proofs.Ytegjbhngkhdcfaa
