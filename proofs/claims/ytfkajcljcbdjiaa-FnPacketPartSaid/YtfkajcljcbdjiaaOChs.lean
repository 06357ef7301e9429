/-
  A row of chunks of the call's own, appended to; the cells of a slice that reads as chunks; parts of it.
-/
import Derived.Test.YtfkajcljcbdjiaaChsLaw
import Derived.Test.YtfkajcljcbdjiaaDraws
import Derived.Test.YtfkajcljcbdjiaaAppend
import Derived.Deep.AppendLies
import Derived.Laws.OwnMore
namespace Go.Proofs.Ytfkajcljcbdjiaa
set_option linter.unusedVariables false
set_option linter.unusedSimpArgs false
open Go.RowKit

/-- The cells of chunks. -/
def flatG : List (Int × Int × ByteArray) → List Value
  | [] => []
  | g :: r => .int .i64 g.1 :: .int .i64 g.2.1 :: .string g.2.2 :: flatG r
theorem flatG_append (a b : List (Int × Int × ByteArray)) : flatG (a ++ b) = flatG a ++ flatG b := by
  induction a with
  | nil => rfl
  | cons x l ih => show _ :: _ :: _ :: flatG (l ++ b) = _ :: _ :: _ :: (flatG l ++ flatG b); rw [ih]
theorem flatG_length (l : List (Int × Int × ByteArray)) : (flatG l).length = l.length * 3 := by
  induction l with
  | nil => rfl
  | cons a l ih => show (flatG l).length + 1 + 1 + 1 = (l.length + 1) * 3; rw [ih]; omega
theorem flatG_get (l : List (Int × Int × ByteArray)) (i : Nat) (h : i < l.length) : (flatG l)[i * 3]? = some (.int .i64 (l.getD i ch0).1) ∧ (flatG l)[i * 3 + 1]? = some (.int .i64 (l.getD i ch0).2.1) ∧ (flatG l)[i * 3 + 2]? = some (.string (l.getD i ch0).2.2) := by
  induction l generalizing i with
  | nil => simp at h
  | cons a l ih =>
    match i with
    | 0 => exact ⟨rfl, rfl, rfl⟩
    | i + 1 =>
      have := ih i (by simpa using h)
      have e : (i + 1) * 3 = i * 3 + 1 + 1 + 1 := by omega
      rw [e]
      exact this
theorem flatG_one (xs : List (Int × Int × ByteArray)) : ∀ u ∈ flatG xs, u.oneCell' = true := by
  induction xs with
  | nil => intro u hu; cases hu
  | cons a l ih =>
    intro u hu
    have h : u = .int .i64 a.1 ∨ u = .int .i64 a.2.1 ∨ u = .string a.2.2 ∨ u ∈ flatG l := by simpa [flatG] using hu
    rcases h with rfl | rfl | rfl | h
    · rfl
    · rfl
    · rfl
    · exact ih u h
theorem Gaps.news {w : World} {B b o n : Nat} {xs : List (Int × Int × ByteArray)} (h : Gaps w B (some ⟨b, o, none⟩) n xs) : ∀ j u, (flatG xs)[j]? = some u → w.cell? ((⟨b, o, none⟩ : Addr).add j) = some u := fun j u hu => by
  have hadd : (⟨b, o, none⟩ : Addr).add j = ⟨b, o + j, none⟩ := by unfold Addr.add; split <;> simp_all
  rw [hadd]
  have hj : j < (flatG xs).length := by
    rcases Nat.lt_or_ge j (flatG xs).length with h | h
    · exact h
    · rw [List.getElem?_eq_none h] at hu; cases hu
  rw [flatG_length] at hj
  obtain ⟨b', o', he, _, hc⟩ := h.2 (by have := h.1; omega)
  injection he with he
  injection he with e1 e2
  subst e1 e2
  have hi : j / 3 < xs.length := by omega
  obtain ⟨c0, c1, c2⟩ := hc (j / 3) (by rw [← h.1]; exact hi)
  obtain ⟨e1, e2, e3⟩ := flatG_get xs (j / 3) hi
  rcases (show j % 3 = 0 ∨ j % 3 = 1 ∨ j % 3 = 2 by omega) with hp | hp | hp
  · have : j / 3 * 3 = j := by omega
    rw [this] at e1 c0
    rw [c0, ← hu, e1]
  · have h2 : j / 3 * 3 + 1 = j := by omega
    rw [h2] at e2
    rw [Nat.add_assoc, h2] at c1
    rw [c1, ← hu, e2]
  · have h2 : j / 3 * 3 + 2 = j := by omega
    rw [h2] at e3
    rw [Nat.add_assoc, h2] at c2
    rw [c2, ← hu, e3]
/-- The first k chunks. -/
theorem Gaps.first {w : World} {B b o n : Nat} {xs : List (Int × Int × ByteArray)} (h : Gaps w B (some ⟨b, o, none⟩) n xs) (k : Nat) (hk : k ≤ n) : Gaps w B (some ⟨b, o, none⟩) k (xs.take k) := by
  have hl := h.1
  refine ⟨by rw [List.length_take]; omega, fun h0 => ?_⟩
  obtain ⟨b', o', e, hlt, hc⟩ := h.2 (by omega)
  refine ⟨b', o', e, hlt, fun i hi => ?_⟩
  have hg : (xs.take k).getD i ch0 = xs.getD i ch0 := by rw [List.getD_eq_getElem?_getD, List.getD_eq_getElem?_getD, List.getElem?_take, if_pos hi]
  rw [hg]
  exact hc i (by omega)
/-- A row of the call's own that holds the chunks xs. -/
def OG (w : World) (base : Nat) (v : Value) (xs : List (Int × Int × ByteArray)) : Prop := w.ownsRow base 41 3 v xs.length (flatG xs)
section
variable {w w' : World} {base base' n m g : Nat} {v : Value} {xs ys : List (Int × Int × ByteArray)}
theorem OG.form (h : OG w base v xs) : ∃ (A : Option Addr) (c : Nat), v = .slice A xs.length c ∧ xs.length ≤ c ∧ c ≤ maxLen ∧ Gaps w w.heap.size A xs.length xs := by
  rcases h.2 with ⟨rfl, h0⟩ | ⟨g, cap, cur, rfl, hb, hg, hn, hm, hs, ht⟩
  · refine ⟨none, 0, by rw [h0], by omega, by decide, rfl, fun hp => absurd hp (by omega)⟩
  · have hlt : g < w.heap.size := (Array.getElem?_eq_some_iff.1 hg).1
    refine ⟨_, _, rfl, hn, hm, rfl, fun hp => ⟨g, 0, rfl, hlt, fun i hi => ?_⟩⟩
    have hO : w.ownsRow base 41 3 (.slice (some ⟨g, 0, none⟩) xs.length cap) xs.length (flatG xs) := h
    obtain ⟨e1, e2, e3⟩ := flatG_get xs i hi
    refine ⟨?_, ?_, ?_⟩
    · rw [Nat.zero_add, hO.cellAt (i * 3) (by omega)]; exact e1
    · rw [Nat.zero_add, hO.cellAt (i * 3 + 1) (by omega)]; exact e2
    · rw [Nat.zero_add, hO.cellAt (i * 3 + 2) (by omega)]; exact e3
theorem OG.below (h : OG w base v xs) (hb : Below w.heap.size w w') : OG w' base v xs :=
  World.ownsRow.kept h (row := none) ⟨hb.os, hb.tape, hb.output, hb.size, fun i hi _ => hb.block i hi⟩ (by cases v.ownBlock with
    | none => exact .inl rfl
    | some k => exact .inr (by simp))
/-- A store into an older block leaves it. -/
theorem OG.old (h : OG w base v xs) {p : Addr} (hp : p.block < base) (u : Value) : OG (w.setCell p u) base v xs :=
  World.ownsRow.kept h (row := some p.block) ⟨rfl, rfl, rfl, by simp [World.setCell], fun i hi hne => Below.heap_setCell w p u i (fun e => hne (by rw [e]))⟩ (own_ne h hp)
theorem OG.far {c : Nat} (h : OG w base (.slice (some ⟨g, 0, none⟩) n c) xs) {p : Addr} (hp : p.block ≠ g) (u : Value) : OG (w.setCell p u) base (.slice (some ⟨g, 0, none⟩) n c) xs :=
  World.ownsRow.kept h (row := some p.block) ⟨rfl, rfl, rfl, by simp [World.setCell], fun i hi hne => Below.heap_setCell w p u i (fun e => hne (by rw [e]))⟩ (.inr (by simp [Value.ownBlock]; exact fun e => hp e.symm))
theorem OG.grown (h : OG w base v xs) (hg : w.grownBy w' (some g)) (hlt : g < base) : OG w' base v xs := World.ownsRow.kept h hg (own_ne h hlt)
theorem OG.mono (h : OG w base v xs) (hb : base' ≤ base) : OG w base' v xs := by
  refine ⟨h.1, ?_⟩
  rcases h.2 with h0 | ⟨g, cap, cur, hv, hbg, r⟩
  · exact .inl h0
  · exact .inr ⟨g, cap, cur, hv, Nat.le_trans hb hbg, r⟩
/-- A row of the call's own, longer by chunks. -/
theorem OG.join (h : w.ownsRow base 41 3 v (n + m) (flatG xs ++ flatG ys)) (hn : xs.length = n) (hm : ys.length = m) : OG w base v (xs ++ ys) := by
  unfold OG
  rw [flatG_append, List.length_append, hn, hm]
  exact h
theorem OG.row (h : OG w base v xs) (hn : xs.length = n) : w.ownsRow base 41 3 v n (flatG xs) := by subst hn; exact h
theorem OG.of (h : w.ownsRow base 41 3 v n (flatG xs)) (hn : xs.length = n) : OG w base v xs := by subst hn; exact h
theorem OG.formN (h : OG w base v xs) (hn : xs.length = n) : ∃ (A : Option Addr) (c : Nat), v = .slice A n c ∧ n ≤ c ∧ c ≤ maxLen ∧ Gaps w w.heap.size A n xs := by subst hn; exact h.form
theorem OG.alloc (h : OG w base v xs) (o : Obj) : OG (w.alloc o) base v xs := h.below ((Below.refl w.heap.size w).alloc (Nat.le_refl _) o)
theorem OG.drew (h : OG w base v xs) : OG w.drew base v xs := h
theorem OG.drewN (h : OG w base v xs) (k : Nat) : OG (w.drewN k) base v xs := h
end
theorem OG.start {W W' : World} {base n : Nat} (hb : Below (W.alloc (.cells #[] 41)).heap.size (W.alloc (.cells #[] 41)) W') (hn : W.heap.size = n) (hB : base ≤ n) : OG W' base (.slice (some ⟨n, 0, none⟩) 0 0) [] := by
  subst hn
  exact OG.below (World.ownsRow_lit W #[] 0 hB (by decide) rfl) hb
end Go.Proofs.Ytfkajcljcbdjiaa
