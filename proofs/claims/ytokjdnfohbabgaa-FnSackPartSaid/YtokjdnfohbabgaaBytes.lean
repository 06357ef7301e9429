/-
  Plain facts on texts, byte by byte; the bytes of a chunk (no program in sight).
-/
import Derived.Test.YtokjdnfohbabgaaChunkFacts
import Derived.Test.YtokjdnfohbabgaaByAt
namespace Go.Proofs.Ytokjdnfohbabgaa
set_option linter.unusedVariables false
set_option linter.unusedSimpArgs false
open Go.RowKit

theorem u8_int {a b : UInt8} (h : (a.toNat : Int) = (b.toNat : Int)) : a = b := by
  apply UInt8.toNat_inj.1; omega
theorem by_ext {x y : ByteArray} (h : x.size = y.size) (h2 : ∀ i, i < x.size → byAt x i = byAt y i) : x = y := by
  apply ByteArray.ext
  apply Array.ext h
  intro i h1 h3
  have := h2 i h1
  rw [← byAt_get x i h1, ← byAt_get y i h3] at this
  exact u8_int this
theorem byAt_app (x y : ByteArray) (i : Nat) : byAt (x ++ y) i = if i < x.size then byAt x i else byAt y (i - x.size) := by
  unfold byAt
  rw [ByteArray.data_append, Array.getD_eq_getD_getElem?, Array.getD_eq_getD_getElem?, Array.getD_eq_getD_getElem?, Array.getElem?_append]
  show _ = if i < x.data.size then _ else _
  split <;> rfl
theorem byAt_app_l {x y : ByteArray} {i : Nat} (h : i < x.size) : byAt (x ++ y) i = byAt x i := by rw [byAt_app, if_pos h]
theorem byAt_app_r {x y : ByteArray} {i : Nat} (h : x.size ≤ i) : byAt (x ++ y) i = byAt y (i - x.size) := by rw [byAt_app, if_neg (by omega)]
theorem byAt_extract (s : ByteArray) (a b i : Nat) (h : a + i < b) (hb : b ≤ s.size) : byAt (s.extract a b) i = byAt s (a + i) := by
  unfold byAt
  rw [ByteArray.data_extract, Array.getD_eq_getD_getElem?, Array.getD_eq_getD_getElem?, Array.getElem?_extract]
  have hs : b ≤ s.data.size := hb
  rw [if_pos (by omega)]
theorem size_extract (s : ByteArray) (a b : Nat) (hb : b ≤ s.size) : (s.extract a b).size = b - a := by
  rw [ByteArray.size_extract]; omega
theorem byAt_by2_0 (p q : Int) (h : 0 ≤ p) (h1 : p ≤ 255) : byAt (by2 p q) 0 = p := by
  show ((UInt8.ofNat p.toNat).toNat : Int) = p
  rw [UInt8.toNat_ofNat']; omega
theorem byAt_by2_1 (p q : Int) (h : 0 ≤ q) (h1 : q ≤ 255) : byAt (by2 p q) 1 = q := by
  show ((UInt8.ofNat q.toNat).toNat : Int) = q
  rw [UInt8.toNat_ofNat']; omega
theorem byAt_zeros (n i : Nat) : byAt (zeros n) i = 0 := by
  unfold byAt zeros
  rw [Array.getD_eq_getD_getElem?]
  show (((List.replicate n (0 : UInt8)).toArray[i]?.getD 0).toNat : Int) = 0
  rw [List.getElem?_toArray, List.getElem?_replicate]
  split <;> rfl
theorem wdAt_w2 (n : Int) (h : 0 ≤ n) (h1 : n ≤ 65535) : byAt (w2 n) 0 = n / 256 ∧ byAt (w2 n) 1 = n % 256 := by
  unfold w2
  exact ⟨byAt_by2_0 _ _ (by omega) (by omega), byAt_by2_1 _ _ (by omega) (by omega)⟩

/-- The bytes of a chunk, one by one. -/
theorem cput_at (k f : Int) (s : ByteArray) (hk : 0 ≤ k) (hk1 : k ≤ 255) (hf : 0 ≤ f) (hf1 : f ≤ 255) (hs : s.size ≤ 60) (i : Nat) :
    byAt (cput k f s) i = if i = 0 then k else if i = 1 then f else if i = 2 then 0 else if i = 3 then 4 + s.size else if i < 4 + s.size then byAt s (i - 4) else 0 := by
  have hw := wdAt_w2 (4 + s.size) (by omega) (by omega)
  unfold cput padTo
  by_cases h : i < 4 + s.size
  · rw [byAt_app_l (by rw [chead_size]; exact h)]
    unfold chead
    by_cases h4 : i < 4
    · rw [byAt_app_l (by rw [ByteArray.size_append, by2_size, w2_size]; exact h4)]
      match i, h4 with
      | 0, _ => rw [byAt_app_l (by rw [by2_size]; omega), byAt_by2_0 k f hk hk1]; rfl
      | 1, _ => rw [byAt_app_l (by rw [by2_size]; omega), byAt_by2_1 k f hf hf1]; rfl
      | 2, _ => rw [byAt_app_r (by rw [by2_size]; omega), by2_size, hw.1]; simp; omega
      | 3, _ => rw [byAt_app_r (by rw [by2_size]; omega), by2_size, hw.2]; simp; omega
    · rw [byAt_app_r (by rw [ByteArray.size_append, by2_size, w2_size]; omega), ByteArray.size_append, by2_size, w2_size, if_neg (by omega), if_neg (by omega), if_neg (by omega), if_neg (by omega), if_pos h]
  · rw [byAt_app_r (by rw [chead_size]; omega), byAt_zeros, if_neg (by omega), if_neg (by omega), if_neg (by omega), if_neg (by omega), if_neg h]
end Go.Proofs.Ytokjdnfohbabgaa
