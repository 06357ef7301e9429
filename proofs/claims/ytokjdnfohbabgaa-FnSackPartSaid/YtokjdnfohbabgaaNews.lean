/-
  The cells of a slice that reads as blocks, to be appended; parts of it.
-/
import Derived.Test.YtokjdnfohbabgaaOGaps
import Derived.Test.YtokjdnfohbabgaaAppend
import Derived.Test.YtokjdnfohbabgaaSSackGet
namespace Go.Proofs.Ytokjdnfohbabgaa
set_option linter.unusedVariables false
set_option linter.unusedSimpArgs false
open Go.RowKit

theorem flatG_one (xs : List (Int × Int)) : ∀ u ∈ flatG xs, u.oneCell' = true := by
  induction xs with
  | nil => intro u hu; cases hu
  | cons a l ih =>
    intro u hu
    have h : u = .int .i64 a.1 ∨ u = .int .i64 a.2 ∨ u ∈ flatG l := by simpa [flatG] using hu
    rcases h with rfl | rfl | h
    · rfl
    · rfl
    · exact ih u h
theorem Gaps.news {w : World} {B b o n : Nat} {xs : List (Int × Int)} (h : Gaps w B (some ⟨b, o, none⟩) n xs) : ∀ j u, (flatG xs)[j]? = some u → w.cell? ((⟨b, o, none⟩ : Addr).add j) = some u := fun j u hu => by
  have hadd : (⟨b, o, none⟩ : Addr).add j = ⟨b, o + j, none⟩ := by unfold Addr.add; split <;> simp_all
  rw [hadd]
  have hj : j < (flatG xs).length := by
    rcases Nat.lt_or_ge j (flatG xs).length with h | h
    · exact h
    · rw [List.getElem?_eq_none h] at hu; cases hu
  rw [flatG_length] at hj
  obtain ⟨b', o', he, _, hc⟩ := h.2 (by have := h.1; omega)
  injection he with he
  injection he with e1 e2
  subst e1 e2
  have hi : j / 2 < xs.length := by omega
  obtain ⟨c0, c1⟩ := hc (j / 2) (by rw [← h.1]; exact hi)
  obtain ⟨e1, e2⟩ := flatG_get xs (j / 2) hi
  rcases Nat.mod_two_eq_zero_or_one j with hp | hp
  · have : j / 2 * 2 = j := by omega
    rw [this] at e1 c0
    rw [c0, ← hu, e1]
  · have h2 : j / 2 * 2 + 1 = j := by omega
    rw [h2] at e2
    rw [Nat.add_assoc, h2] at c1
    rw [c1, ← hu, e2]
theorem flatG_append (a b : List (Int × Int)) : flatG (a ++ b) = flatG a ++ flatG b := by
  induction a with
  | nil => rfl
  | cons x l ih => show _ :: _ :: flatG (l ++ b) = _ :: _ :: (flatG l ++ flatG b); rw [ih]
/-- A row of the call's own, longer by blocks. -/
theorem OG.join {w : World} {base n m : Nat} {v : Value} {xs ys : List (Int × Int)} (h : w.ownsRow base 38 2 v (n + m) (flatG xs ++ flatG ys)) (hn : xs.length = n) (hm : ys.length = m) : OG w base v (xs ++ ys) := by
  unfold OG
  rw [flatG_append, List.length_append, hn, hm]
  exact h
/-- The first k blocks; those from k on. -/
theorem Gaps.first {w : World} {B b o n : Nat} {xs : List (Int × Int)} (h : Gaps w B (some ⟨b, o, none⟩) n xs) (k : Nat) (hk : k ≤ n) : Gaps w B (some ⟨b, o, none⟩) k (xs.take k) := by
  have hl := h.1
  refine ⟨by rw [List.length_take]; omega, fun h0 => ?_⟩
  obtain ⟨b', o', e, hlt, hc⟩ := h.2 (by omega)
  refine ⟨b', o', e, hlt, fun i hi => ?_⟩
  have hg : (xs.take k).getD i (0, 0) = xs.getD i (0, 0) := by rw [List.getD_eq_getElem?_getD, List.getD_eq_getElem?_getD, List.getElem?_take, if_pos hi]
  rw [hg]
  exact hc i (by omega)
theorem Gaps.from_ {w : World} {B b o n : Nat} {xs : List (Int × Int)} (h : Gaps w B (some ⟨b, o, none⟩) n xs) (k : Nat) (hk : k ≤ n) : Gaps w B (some ⟨b, o + k * 2, none⟩) (n - k) (xs.drop k) := by
  have hl := h.1
  refine ⟨by rw [List.length_drop]; omega, fun h0 => ?_⟩
  obtain ⟨b', o', e, hlt, hc⟩ := h.2 (by omega)
  injection e with e
  injection e with e1 e2
  subst e1 e2
  refine ⟨b, o + k * 2, rfl, hlt, fun i hi => ?_⟩
  have hg : (xs.drop k).getD i (0, 0) = xs.getD (k + i) (0, 0) := by rw [List.getD_eq_getElem?_getD, List.getD_eq_getElem?_getD, List.getElem?_drop]
  obtain ⟨h1, h2⟩ := hc (k + i) (by omega)
  rw [hg, show o + k * 2 + i * 2 = o + (k + i) * 2 by omega]
  exact ⟨h1, h2⟩
theorem gapsOk_le {l : Int} {xs : List (Int × Int)} (h : gapsOk l xs = true) : ∀ i, i < xs.length → (xs.getD i (0, 0)).1 ≤ (xs.getD i (0, 0)).2 := by
  induction xs generalizing l with
  | nil => intro i hi; simp at hi
  | cons g r ih =>
    unfold gapsOk at h
    rw [Bool.and_eq_true] at h
    have h3 := of_decide_eq_true h.1
    intro i hi
    match i with
    | 0 => show g.1 ≤ g.2; omega
    | i + 1 => exact ih h.2 i (by simpa using hi)
theorem inG_le {cum : Int} {xs : List (Int × Int)} (h : sackOkV cum xs = true) : ∀ i, i < xs.length → (xs.getD i (0, 0)).1 ≤ (xs.getD i (0, 0)).2 := gapsOk_le (sackOk_yes h).2.2.2
end Go.Proofs.Ytokjdnfohbabgaa
