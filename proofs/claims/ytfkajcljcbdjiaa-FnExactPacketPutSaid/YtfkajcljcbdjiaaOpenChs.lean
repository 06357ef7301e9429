/-
  An argument that is a slice of chunks, opened.
-/
import Derived.Test.YtfkajcljcbdjiaaOpen
import Derived.Test.YtfkajcljcbdjiaaChs
import Derived.Deep.Fields
import Derived.ChangeSame
namespace Go.Proofs.Ytfkajcljcbdjiaa
set_option linter.unusedVariables false
set_option linter.unusedSimpArgs false
open Go.RowKit Go.ChangeShapes Go.WideShapes Go.Joins Go.Deep

/-- A slice of chunks that came in. -/
def ChunksIn (w : World) (a : Option Addr) (n c : Nat) : Prop := n ≤ c ∧ c ≤ maxLen ∧ ∃ xs : List (Int × Int × ByteArray), Gaps w w.heap.size a n xs ∧ ∀ i, i < n → (xs.getD i ch0).2.2.size ≤ maxLen

section
variable {H : Type} {enc : TypeId × Value → H} {P : Program} {w : World} {base : Nat} {spare : Nat → Bool} {held : Bool}
theorem open_slice_fields {t e : TypeId} {fs : Array Field} {fuel : Nat} {cs : List Value} {x : DataW H × List MemPlace} (ht : P.underlying t = some (.slice e)) (he : P.underlying e = some (.struct fs))
    (hone : oneCellFields P fs = true) (hC : P.cellsOf e = fs.size) (h : DataW.trod enc P w base spare held fuel t cs = some x) :
    (cs = [.slice none 0 0] ∧ x = (.nil, [])) ∨
    ∃ (a : Addr) (len cap m : Nat), cs = [.slice (some a) len cap] ∧ len ≤ cap ∧ cap ≤ maxLen ∧ m = (if spare a.block then cap else len) ∧
      ∀ i, i < m → ∀ (j : Nat) (f : Field), fs[j]? = some f → ∃ (n : Nat) (v : Value) (y : DataW H × List MemPlace), w.cell? (a.add (i * fs.size + j)) = some v ∧ DataW.trod enc P w base spare held n f.type [v] = some y := by
  rcases open_slice ht h with h0 | ⟨a, len, cap, m, n, D, Pl, hcs, hb, hl, hm, hmm, hx, hi⟩
  · exact .inl h0
  · refine .inr ⟨a, len, cap, m, hcs, hl, hm, hmm, fun i him j f hj => ?_⟩
    obtain ⟨cs', hc, ht'⟩ := hi i him
    rw [hC] at hc
    obtain ⟨ys, n', hn', hy, hlen, hyl, hf⟩ := DataW.trod_struct he ht'
    obtain ⟨_, hcl, hat⟩ := World.cells?_some hc
    obtain ⟨ho, hk⟩ := hone_of hone j f hj
    have hjl : j < fs.size := (Array.getElem?_eq_some_iff.1 hj).1
    have hcell := hat j hjl
    have hv : cs'[j]? = some (cs'[j]'(by omega)) := List.getElem?_eq_getElem (by omega)
    have h1 := hf j f hj
    rw [ho, hk] at h1
    have hone' : (cs'.drop j).take 1 = [cs'[j]'(by omega)] := by
      rw [List.drop_eq_getElem_cons (by omega)]
      rfl
    rw [hone'] at h1
    have hys : ys[j]? = some (ys[j]'(by omega)) := List.getElem?_eq_getElem (by omega)
    refine ⟨_, _, _, ?_, h1.trans hys⟩
    rw [← Go.Deep.add_add, hcell, hv]
end

theorem chunks_field {H : Type} {enc : TypeId × Value → H} {w : World} {base : Nat} {spare : Nat → Bool} {held : Bool} {n : Nat} {u : Value} {y : DataW H × List MemPlace} (h : DataW.trod enc Try.prog w base spare held n 32 [u] = some y) :
    ∃ (a : Option Addr) (l c : Nat), u = .slice a l c ∧ ChunksIn w a l c := by
  rcases open_slice_fields Try.underlying32 Try.underlying65 (by kernel_rfl) (by kernel_rfl) h with ⟨hcs, _⟩ | ⟨a, len, cap, m, hcs, hl, hm, hmm, hf⟩
  · simp at hcs
    exact ⟨none, 0, 0, hcs, Nat.le_refl _, by decide, [], ⟨rfl, fun h => absurd h (by omega)⟩, fun i hi => absurd hi (by omega)⟩
  · simp at hcs
    refine ⟨some a, len, cap, hcs, hl, hm, ?_⟩
    have hlm : len ≤ m := by rw [hmm]; split <;> omega
    have hF : ∀ i, ∃ p : Int × Int × ByteArray, i < len → w.cell? (a.add (i * 3)) = some (.int .i64 p.1) ∧ w.cell? (a.add (i * 3 + 1)) = some (.int .i64 p.2.1) ∧ w.cell? (a.add (i * 3 + 2)) = some (.string p.2.2) ∧ p.2.2.size ≤ maxLen := fun i => by
      by_cases hi : i < len
      · obtain ⟨n0, v0, y0, c0, t0⟩ := hf i (by omega) 0 _ rfl
        obtain ⟨n1, v1, y1, c1, t1⟩ := hf i (by omega) 1 _ rfl
        obtain ⟨n2, v2, y2, c2, t2⟩ := hf i (by omega) 2 _ rfl
        obtain ⟨z0, rfl, _⟩ := int_field Try.underlying3 t0
        obtain ⟨z1, rfl, _⟩ := int_field Try.underlying3 t1
        obtain ⟨z2, rfl, hz⟩ := string_field Try.underlying9 t2
        exact ⟨(z0, z1, z2), fun _ => ⟨c0, c1, c2, hz⟩⟩
      · exact ⟨ch0, fun h => absurd h hi⟩
    obtain ⟨F, hF⟩ := Classical.skolem.1 hF
    have hg : ∀ i, i < len → ((List.range len).map F).getD i ch0 = F i := fun i hi => by simp [List.getD_eq_getElem?_getD, hi]
    refine ⟨(List.range len).map F, ⟨by simp, fun h0 => ?_⟩, fun i hi => ?_⟩
    · obtain ⟨b, off, spot⟩ := a
      have h1 := (hF 0 h0).1
      have hspot : spot = none := by simpa [Addr.add] using World.cell?_spot h1
      subst hspot
      have hadd : ∀ k, (⟨b, off, none⟩ : Addr).add k = ⟨b, off + k, none⟩ := fun k => by unfold Addr.add; split <;> simp_all
      refine ⟨b, off, rfl, World.block_lt_of_cell? w _ (by rw [hadd] at h1; exact h1), fun i hi => ?_⟩
      obtain ⟨h2, h3, h4, _⟩ := hF i hi
      rw [hadd] at h2 h3 h4
      rw [hg i hi]
      exact ⟨h2, h3, h4⟩
    · rw [hg i hi]
      exact (hF i hi).2.2.2
end Go.Proofs.Ytfkajcljcbdjiaa
