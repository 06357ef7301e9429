/-
  A receipt's body read back, and a receipt written back (no program in sight).
-/
import Derived.Test.YtokjdnfohbabgaaSackVal
import Derived.Test.YtokjdnfohbabgaaWdApp
namespace Go.Proofs.Ytokjdnfohbabgaa
set_option linter.unusedVariables false
set_option linter.unusedSimpArgs false
open Go.RowKit

/-- All numbers of the blocks are within two bytes. -/
def gapsIn (xs : List (Int × Int)) : Prop := ∀ i, i < xs.length → 0 ≤ (xs.getD i (0, 0)).1 ∧ (xs.getD i (0, 0)).1 ≤ 65535 ∧ 0 ≤ (xs.getD i (0, 0)).2 ∧ (xs.getD i (0, 0)).2 ≤ 65535
theorem gapsIn_tail {g : Int × Int} {r : List (Int × Int)} (h : gapsIn (g :: r)) : gapsIn r := fun i hi => h (i + 1) (by simpa using hi)
theorem gapsW_at (xs : List (Int × Int)) (h : gapsIn xs) (i : Nat) (hi : i < xs.length) : wdAt (gapsW xs) (4 * i) = (xs.getD i (0, 0)).1 ∧ wdAt (gapsW xs) (4 * i + 2) = (xs.getD i (0, 0)).2 := by
  induction xs generalizing i with
  | nil => simp at hi
  | cons g r ih =>
    have hg := h 0 (by simp)
    have hg2 : 0 ≤ g.1 ∧ g.1 ≤ 65535 ∧ 0 ≤ g.2 ∧ g.2 ≤ 65535 := hg
    match i, hi with
    | 0, _ =>
      show wdAt (w2 g.1 ++ w2 g.2 ++ gapsW r) 0 = g.1 ∧ wdAt (w2 g.1 ++ w2 g.2 ++ gapsW r) 2 = g.2
      constructor
      · rw [wdAt_app_l (by rw [w22_size]; omega), wdAt_app_l (by rw [w2_size]; omega), wdAt_w2_0 _ (by omega) (by omega)]
      · rw [wdAt_app_l (by rw [w22_size]; omega), wdAt_app_r (by rw [w2_size]; omega), w2_size, wdAt_w2_0 _ (by omega) (by omega)]
    | i + 1, hi =>
      have ht := ih (gapsIn_tail h) i (by simpa using hi)
      show wdAt (w2 g.1 ++ w2 g.2 ++ gapsW r) (4 * (i + 1)) = (r.getD i (0, 0)).1 ∧ wdAt (w2 g.1 ++ w2 g.2 ++ gapsW r) (4 * (i + 1) + 2) = (r.getD i (0, 0)).2
      rw [wdAt_app_r (by rw [w22_size]; omega), wdAt_app_r (by rw [w22_size]; omega), w22_size, show 4 * (i + 1) - 4 = 4 * i by omega, show 4 * (i + 1) + 2 - 4 = 4 * i + 2 by omega]
      exact ht
theorem sackBody_cum (cum : Int) (xs : List (Int × Int)) (h : 0 ≤ cum) (h1 : cum ≤ 65535) : wdAt (sackBody cum xs) 0 = cum := by
  unfold sackBody
  rw [wdAt_app_l (by rw [w2_size]; omega), wdAt_w2_0 _ h h1]
theorem sackBody_gap (cum : Int) (xs : List (Int × Int)) (h : gapsIn xs) (i : Nat) (hi : i < xs.length) : wdAt (sackBody cum xs) (2 + 4 * i) = (xs.getD i (0, 0)).1 ∧ wdAt (sackBody cum xs) (4 + 4 * i) = (xs.getD i (0, 0)).2 := by
  unfold sackBody
  rw [wdAt_app_r (by rw [w2_size]; omega), wdAt_app_r (by rw [w2_size]; omega), w2_size, show 2 + 4 * i - 2 = 4 * i by omega, show 4 + 4 * i - 2 = 4 * i + 2 by omega]
  exact gapsW_at xs h i hi
theorem ext_getD {xs ys : List (Int × Int)} (hl : xs.length = ys.length) (h : ∀ i, i < xs.length → xs.getD i (0, 0) = ys.getD i (0, 0)) : xs = ys := by
  apply List.ext_getElem hl
  intro i h1 h2
  have := h i h1
  rw [List.getD_eq_getElem?_getD, List.getD_eq_getElem?_getD, List.getElem?_eq_getElem h1, List.getElem?_eq_getElem h2] at this
  exact this
theorem sgXs_body (cum : Int) (xs : List (Int × Int)) (h : gapsIn xs) : sgXs (sackBody cum xs) = xs := by
  have hz : (sackBody cum xs).size / 4 = xs.length := by rw [sackBody_size]; omega
  refine ext_getD (by rw [sgXs_length, hz]) fun i hi => ?_
  rw [sgXs_length, hz] at hi
  rw [sgXs_get _ i (by omega)]
  obtain ⟨e1, e2⟩ := sackBody_gap cum xs h i hi
  rw [e1, e2]
theorem gapsIn_ok {cum : Int} {xs : List (Int × Int)} (h : sackOkV cum xs = true) : gapsIn xs := by
  obtain ⟨_, _, _, hg⟩ := sackOk_yes h
  intro i hi
  have := gapsOk_range hg (by omega) i hi
  omega
/-- What is read is what was written. -/
theorem sg_back {cum : Int} {xs : List (Int × Int)} (h : sackOkV cum xs = true) : sgOk 3 0 (sackBody cum xs) = true ∧ wdAt (sackBody cum xs) 0 = cum ∧ sgXs (sackBody cum xs) = xs := by
  obtain ⟨h1, h2, _, _⟩ := sackOk_yes h
  have e1 := sackBody_cum cum xs h1 h2
  have e2 := sgXs_body cum xs (gapsIn_ok h)
  refine ⟨?_, e1, e2⟩
  unfold sgOk sgHead sgIn
  rw [e1, e2, h, sackBody_size]
  simp
theorem sgXs_in (s : ByteArray) : gapsIn (sgXs s) := fun i hi => by
  rw [sgXs_length] at hi
  rw [sgXs_get s i hi]
  have r1 := wdAt_range s (2 + 4 * i)
  have r2 := wdAt_range s (4 + 4 * i)
  show 0 ≤ wdAt s (2 + 4 * i) ∧ wdAt s (2 + 4 * i) ≤ 65535 ∧ 0 ≤ wdAt s (4 + 4 * i) ∧ wdAt s (4 + 4 * i) ≤ 65535
  omega
/-- What is written is what was read. -/
theorem sg_forth (s : ByteArray) (h : s.size % 4 = 2) : sackBody (wdAt s 0) (sgXs s) = s := by
  have hz : (sackBody (wdAt s 0) (sgXs s)).size = s.size := by rw [sackBody_size, sgXs_length]; omega
  refine by_words hz (by omega) fun i hi hp => ?_
  rw [hz] at hi
  have r := wdAt_range s 0
  rcases (show i = 0 ∨ ∃ j, i = 2 + 4 * j ∨ i = 4 + 4 * j by
    rcases (show i = 0 ∨ i % 4 = 2 ∨ (i % 4 = 0 ∧ 4 ≤ i) by omega) with h1 | h1 | h1
    · exact .inl h1
    · exact .inr ⟨(i - 2) / 4, .inl (by omega)⟩
    · exact .inr ⟨(i - 4) / 4, .inr (by omega)⟩) with rfl | ⟨j, rfl | rfl⟩
  · exact sackBody_cum _ _ r.1 r.2
  · have := (sackBody_gap (wdAt s 0) (sgXs s) (sgXs_in s) j (by rw [sgXs_length]; omega)).1
    rw [this, sgXs_get s j (by omega)]
  · have := (sackBody_gap (wdAt s 0) (sgXs s) (sgXs_in s) j (by rw [sgXs_length]; omega)).2
    rw [this, sgXs_get s j (by omega)]
theorem sgOk_yes {k f : Int} {s : ByteArray} (h : sgOk k f s = true) : k = 3 ∧ f = 0 ∧ s.size % 4 = 2 ∧ sackOkV (wdAt s 0) (sgXs s) = true := by
  unfold sgOk at h
  rw [Bool.and_eq_true] at h
  obtain ⟨h1, h2, h3⟩ := sgHead_yes h.1
  exact ⟨h1, h2, h3, h.2⟩

/-! Blocks left out, blocks that touch. -/
theorem gapsOk_mono {l l' : Int} {xs : List (Int × Int)} (h : gapsOk l xs = true) (hl : l' ≤ l) : gapsOk l' xs = true := by
  cases xs with
  | nil => rfl
  | cons g r =>
    unfold gapsOk at h ⊢
    rw [Bool.and_eq_true] at h ⊢
    exact ⟨by have := of_decide_eq_true h.1; simp; omega, h.2⟩
theorem gapsOk_skip {l : Int} {xs : List (Int × Int)} (h : gapsOk l xs = true) (k : Nat) (hk : k < xs.length) : gapsOk l (xs.take k ++ xs.drop (k + 1)) = true := by
  induction xs generalizing l k with
  | nil => simp at hk
  | cons g r ih =>
    have h2 := h
    unfold gapsOk at h2
    rw [Bool.and_eq_true] at h2
    have h3 := of_decide_eq_true h2.1
    match k, hk with
    | 0, _ => show gapsOk l r = true; exact gapsOk_mono h2.2 (by omega)
    | k + 1, hk =>
      show gapsOk l (g :: (r.take k ++ r.drop (k + 1))) = true
      unfold gapsOk
      rw [Bool.and_eq_true]
      exact ⟨h2.1, ih h2.2 k (by simpa using hk)⟩
theorem sack_skip {cum : Int} {xs : List (Int × Int)} (h : sackOkV cum xs = true) (k : Nat) (hk : k < xs.length) : sackOkV cum (xs.take k ++ xs.drop (k + 1)) = true := by
  unfold sackOkV at h ⊢
  rw [Bool.and_eq_true, Bool.and_eq_true] at h ⊢
  obtain ⟨⟨h1, h2⟩, h3⟩ := h
  refine ⟨⟨h1, ?_⟩, gapsOk_skip h3 k hk⟩
  have := of_decide_eq_true h2
  simp [List.length_take, List.length_drop]
  omega
theorem gapsOk_touch {l : Int} (xs : List (Int × Int)) (f t f' t' : Int) (hf : f' < t + 2) : gapsOk l (xs ++ [(f, t)] ++ [(f', t')]) = false := by
  induction xs generalizing l with
  | nil =>
    show gapsOk l [(f, t), (f', t')] = false
    unfold gapsOk gapsOk gapsOk
    simp
    omega
  | cons g r ih =>
    show gapsOk l (g :: (r ++ [(f, t)] ++ [(f', t')])) = false
    unfold gapsOk
    rw [ih]
    simp
theorem sack_touch (cum : Int) (xs : List (Int × Int)) (f t f' t' : Int) (hf : f' < t + 2) : sackOkV cum (xs ++ [(f, t)] ++ [(f', t')]) = false := by
  unfold sackOkV
  rw [gapsOk_touch xs f t f' t' hf]
  simp
end Go.Proofs.Ytokjdnfohbabgaa
