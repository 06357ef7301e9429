/-
  A row of blocks of the call's own, appended to.
-/
import Derived.Test.YtokjdnfohbabgaaGapsLaw
import Derived.Test.YtokjdnfohbabgaaDraws
import Derived.Deep.AppendLies
import Derived.Laws.OwnMore
namespace Go.Proofs.Ytokjdnfohbabgaa
set_option linter.unusedVariables false
set_option linter.unusedSimpArgs false
open Go.RowKit

/-- The cells of blocks. -/
def flatG : List (Int × Int) → List Value
  | [] => []
  | g :: r => .int .i64 g.1 :: .int .i64 g.2 :: flatG r
theorem flatG_snoc (l : List (Int × Int)) (f t : Int) : flatG (l ++ [(f, t)]) = flatG l ++ [.int .i64 f, .int .i64 t] := by
  induction l with
  | nil => rfl
  | cons a l ih => show _ :: _ :: flatG (l ++ [(f, t)]) = _ :: _ :: (flatG l ++ _); rw [ih]
theorem flatG_length (l : List (Int × Int)) : (flatG l).length = l.length * 2 := by
  induction l with
  | nil => rfl
  | cons a l ih => show (flatG l).length + 1 + 1 = (l.length + 1) * 2; rw [ih]; omega
theorem flatG_get (l : List (Int × Int)) (i : Nat) (h : i < l.length) : (flatG l)[i * 2]? = some (.int .i64 (l.getD i (0, 0)).1) ∧ (flatG l)[i * 2 + 1]? = some (.int .i64 (l.getD i (0, 0)).2) := by
  induction l generalizing i with
  | nil => simp at h
  | cons a l ih =>
    match i with
    | 0 => exact ⟨rfl, rfl⟩
    | i + 1 =>
      have := ih i (by simpa using h)
      have e : (i + 1) * 2 = i * 2 + 1 + 1 := by omega
      rw [e]
      exact this
/-- A row of the call's own that holds the blocks xs. -/
def OG (w : World) (base : Nat) (v : Value) (xs : List (Int × Int)) : Prop := w.ownsRow base 38 2 v xs.length (flatG xs)
theorem OG.form {w : World} {base : Nat} {v : Value} {xs : List (Int × Int)} (h : OG w base v xs) : ∃ (A : Option Addr) (c : Nat), v = .slice A xs.length c ∧ xs.length ≤ c ∧ c ≤ maxLen ∧ Gaps w w.heap.size A xs.length xs := by
  rcases h.2 with ⟨rfl, h0⟩ | ⟨g, cap, cur, rfl, hb, hg, hn, hm, hs, ht⟩
  · refine ⟨none, 0, by rw [h0], by omega, by decide, rfl, fun hp => absurd hp (by omega)⟩
  · have hlt : g < w.heap.size := (Array.getElem?_eq_some_iff.1 hg).1
    refine ⟨_, _, rfl, hn, hm, rfl, fun hp => ⟨g, 0, rfl, hlt, fun i hi => ?_⟩⟩
    have hO : w.ownsRow base 38 2 (.slice (some ⟨g, 0, none⟩) xs.length cap) xs.length (flatG xs) := h
    obtain ⟨e1, e2⟩ := flatG_get xs i hi
    constructor
    · rw [Nat.zero_add, hO.cellAt (i * 2) (by omega)]; exact e1
    · rw [Nat.zero_add, hO.cellAt (i * 2 + 1) (by omega)]; exact e2
theorem OG.below {w w' : World} {base : Nat} {v : Value} {xs : List (Int × Int)} (h : OG w base v xs) (hb : Below w.heap.size w w') : OG w' base v xs :=
  World.ownsRow.kept h (row := none) ⟨hb.os, hb.tape, hb.output, hb.size, fun i hi _ => hb.block i hi⟩ (by cases v.ownBlock with
    | none => exact .inl rfl
    | some k => exact .inr (by simp))
/-- A store into an older block leaves it. -/
theorem OG.old {w : World} {base : Nat} {v : Value} {xs : List (Int × Int)} (h : OG w base v xs) {p : Addr} (hp : p.block < base) (u : Value) : OG (w.setCell p u) base v xs :=
  World.ownsRow.kept h (row := some p.block) ⟨rfl, rfl, rfl, by simp [World.setCell], fun i hi hne => Below.heap_setCell w p u i (fun e => hne (by rw [e]))⟩ (own_ne h hp)
theorem OG.mono {w : World} {base base' : Nat} {v : Value} {xs : List (Int × Int)} (h : OG w base v xs) (hb : base' ≤ base) : OG w base' v xs := by
  refine ⟨h.1, ?_⟩
  rcases h.2 with h0 | ⟨g, cap, cur, hv, hbg, r⟩
  · exact .inl h0
  · exact .inr ⟨g, cap, cur, hv, Nat.le_trans hb hbg, r⟩
theorem OG.snoc {w : World} {base n : Nat} {v : Value} {xs : List (Int × Int)} {f t : Int} (h : w.ownsRow base 38 2 v (n + 1) (flatG xs ++ [.int .i64 f, .int .i64 t])) (hn : xs.length = n) : OG w base v (xs ++ [(f, t)]) := by
  unfold OG
  rw [flatG_snoc, List.length_append, hn]
  exact h
theorem OG.row {w : World} {base n : Nat} {v : Value} {xs : List (Int × Int)} (h : OG w base v xs) (hn : xs.length = n) : w.ownsRow base 38 2 v n (flatG xs) := by subst hn; exact h
theorem OG.formN {w : World} {base n : Nat} {v : Value} {xs : List (Int × Int)} (h : OG w base v xs) (hn : xs.length = n) : ∃ (A : Option Addr) (c : Nat), v = .slice A n c ∧ n ≤ c ∧ c ≤ maxLen ∧ Gaps w w.heap.size A n xs := by subst hn; exact h.form
theorem OG.alloc {w : World} {base : Nat} {v : Value} {xs : List (Int × Int)} (h : OG w base v xs) (o : Obj) : OG (w.alloc o) base v xs := h.below ((Below.refl w.heap.size w).alloc (Nat.le_refl _) o)
theorem OG.drew {w : World} {base : Nat} {v : Value} {xs : List (Int × Int)} (h : OG w base v xs) : OG w.drew base v xs := h
theorem OG.drewN {w : World} {base : Nat} {v : Value} {xs : List (Int × Int)} (h : OG w base v xs) (k : Nat) : OG (w.drewN k) base v xs := h
end Go.Proofs.Ytokjdnfohbabgaa
