/-
  Arguments opened: what the walk is told of a code, a number, a text, a struct of one-cell fields that came in.
-/
import Derived.Test.YtokjdnfohbabgaaBase
import Derived.Test.YtokjdnfohbabgaaRows
import Derived.ProofKit
import Derived.OpenShut
import Derived.ShutString
import Derived.ChangeOld
import Derived.Lib.SmallJoins
import Derived.Deep.Slices
namespace Go.Proofs.Ytokjdnfohbabgaa
set_option linter.unusedVariables false
set_option linter.unusedSimpArgs false
open Go.RowKit Go.ChangeShapes Go.WideShapes Go.Joins Go.Deep

/-- A code that came in: bytes, below the heap's end. -/
def Code (w : World) (a : Option Addr) (n c : Nat) : Prop :=
  n ≤ c ∧ c ≤ maxLen ∧ (0 < n → ∃ b off, a = some ⟨b, off, none⟩ ∧ b < w.heap.size ∧ ∀ i : Nat, i < n → ∃ v : Int, 0 ≤ v ∧ v ≤ 255 ∧ w.cell? ⟨b, off + i, none⟩ = some (.int .u8 v))
theorem Code.below {w w' : World} {a : Option Addr} {n c : Nat} (h : Code w a n c) (hb : Below w.heap.size w w') : Code w' a n c := by
  obtain ⟨h1, h2, h3⟩ := h
  refine ⟨h1, h2, fun h0 => ?_⟩
  obtain ⟨b, off, e, hlt, hv⟩ := h3 h0
  refine ⟨b, off, e, Nat.lt_of_lt_of_le hlt hb.size, fun i hi => ?_⟩
  obtain ⟨v, h4, h5, h6⟩ := hv i hi
  exact ⟨v, h4, h5, (hb.cell (p := ⟨b, off + i, none⟩) hlt).trans h6⟩

section
variable {H : Type} {enc : TypeId × Value → H} {P : Program} {w : World} {base : Nat} {spare : Nat → Bool} {held : Bool}

theorem code_of {t e : TypeId} {fuel : Nat} {a : Option Addr} {l c : Nat} {x : DataW H × List MemPlace} (ht : P.underlying t = some (.slice e)) (he : P.underlying e = some (.int .u8)) (hc : P.cellsOf e = 1)
    (hf : DataW.trod enc P w base spare held fuel t (Value.slice a l c).cells.toList = some x) : Code w a l c := by
  rcases open_ints ht he hc hf with ⟨hcs, _⟩ | ⟨x, l', c', zs, hcs, _, hl, hm, hz, _, hcell, hwz⟩
  · simp [Value.cells] at hcs
    obtain ⟨rfl, rfl, rfl⟩ := hcs
    exact ⟨Nat.le_refl _, by decide, fun h => absurd h (by omega)⟩
  · simp [Value.cells] at hcs
    obtain ⟨rfl, rfl, rfl⟩ := hcs
    refine ⟨hl, hm, fun h0 => ?_⟩
    have hzl : l ≤ zs.length := by
      rw [hz]; split <;> omega
    obtain ⟨b, off, spot⟩ := x
    have h1 := hcell 0 (by omega)
    have hspot : spot = none := by simpa [Addr.add] using World.cell?_spot h1
    subst hspot
    refine ⟨b, off, rfl, World.block_lt_of_cell? w _ (by simpa [Addr.add] using h1), fun i hi => ?_⟩
    have h2 := hcell i (by omega)
    have h3 := hwz (zs.getD i 0) (by
      rw [List.getD_eq_getElem?_getD, List.getElem?_eq_getElem (show i < zs.length by omega)]
      exact List.getElem_mem _)
    have h4 := bounds_u8 h3
    refine ⟨zs.getD i 0, h4.1, h4.2, ?_⟩
    have h5 : (⟨b, off, none⟩ : Addr).add i = ⟨b, off + i, none⟩ := by unfold Addr.add; split <;> simp_all
    rw [← h5]
    exact h2

/-- A struct of one-cell fields by value: its fields' values, each with its reading. -/
theorem open_fields {r : Reach} {b0 : Nat} {t : TypeId} {fs : Array Field} {v : Value} {d : DataW H} {p : List MemPlace} (hs : P.underlying t = some (.struct fs)) (hone : oneCellFields P fs = true) (hC : P.cellsOf t = fs.size)
    (hv : Value.okWide P w r b0 t v) (h : DataW.Trod enc P w base spare held t v d p) :
    ∃ (cs : Array Value) (n : Nat), v = .agg cs ∧ cs.size = fs.size ∧ ∀ (j : Nat) (f : Field), fs[j]? = some f → ∃ (u : Value) (y : DataW H × List MemPlace), cs[j]? = some u ∧ DataW.trod enc P w base spare held n f.type [u] = some y ∧ ∀ z ∈ y.2, z ∈ p := by
  obtain ⟨cs, rfl, hsz⟩ := okWide_struct hs hv
  obtain ⟨fuel, hf⟩ := h
  obtain ⟨ys, n, _, hx, _, hlen, hg⟩ := DataW.trod_struct hs hf
  rw [hC] at hsz
  refine ⟨cs, n, rfl, hsz, fun j f hj => ?_⟩
  obtain ⟨ho, hk⟩ := hone_of hone j f hj
  have hjl : j < fs.size := (Array.getElem?_eq_some_iff.1 hj).1
  have h1 := hg j f hj
  rw [ho, hk] at h1
  have h2 : ((Value.agg cs).cells.toList.drop j).take 1 = [cs[j]'(by omega)] := by
    show (cs.toList.drop j).take 1 = _
    rw [List.drop_eq_getElem_cons (by simp; omega)]
    simp
  rw [h2] at h1
  have hys : ys[j]? = some (ys[j]'(by omega)) := List.getElem?_eq_getElem (by omega)
  refine ⟨cs[j]'(by omega), ys[j]'(by omega), Array.getElem?_eq_getElem (by omega), h1.trans hys, fun z hz => ?_⟩
  simp only [Prod.mk.injEq] at hx
  rw [hx.2]
  exact List.mem_flatMap.2 ⟨_, List.getElem_mem (by omega), hz⟩

theorem arr2 {cs : Array Value} {a b : Value} (h : cs.size = 2) (h0 : cs[0]? = some a) (h1 : cs[1]? = some b) : cs = #[a, b] := by
  apply Array.ext (by simpa using h)
  intro i hi _
  match i, hi with
  | 0, hi => simpa [Array.getElem?_eq_getElem hi] using h0
  | 1, hi => simpa [Array.getElem?_eq_getElem hi] using h1
  | n + 2, hi => omega
theorem arr3 {cs : Array Value} {a b c : Value} (h : cs.size = 3) (h0 : cs[0]? = some a) (h1 : cs[1]? = some b) (h2 : cs[2]? = some c) : cs = #[a, b, c] := by
  apply Array.ext (by simpa using h)
  intro i hi _
  match i, hi with
  | 0, hi => simpa [Array.getElem?_eq_getElem hi] using h0
  | 1, hi => simpa [Array.getElem?_eq_getElem hi] using h1
  | 2, hi => simpa [Array.getElem?_eq_getElem hi] using h2
  | n + 3, hi => omega
theorem arr4 {cs : Array Value} {a b c d : Value} (h : cs.size = 4) (h0 : cs[0]? = some a) (h1 : cs[1]? = some b) (h2 : cs[2]? = some c) (h3 : cs[3]? = some d) : cs = #[a, b, c, d] := by
  apply Array.ext (by simpa using h)
  intro i hi _
  match i, hi with
  | 0, hi => simpa [Array.getElem?_eq_getElem hi] using h0
  | 1, hi => simpa [Array.getElem?_eq_getElem hi] using h1
  | 2, hi => simpa [Array.getElem?_eq_getElem hi] using h2
  | 3, hi => simpa [Array.getElem?_eq_getElem hi] using h3
  | n + 4, hi => omega
theorem arr7 {cs : Array Value} {a b c d e f g : Value} (h : cs.size = 7) (h0 : cs[0]? = some a) (h1 : cs[1]? = some b) (h2 : cs[2]? = some c) (h3 : cs[3]? = some d) (h4 : cs[4]? = some e) (h5 : cs[5]? = some f) (h6 : cs[6]? = some g) : cs = #[a, b, c, d, e, f, g] := by
  apply Array.ext (by simpa using h)
  intro i hi _
  match i, hi with
  | 0, hi => simpa [Array.getElem?_eq_getElem hi] using h0
  | 1, hi => simpa [Array.getElem?_eq_getElem hi] using h1
  | 2, hi => simpa [Array.getElem?_eq_getElem hi] using h2
  | 3, hi => simpa [Array.getElem?_eq_getElem hi] using h3
  | 4, hi => simpa [Array.getElem?_eq_getElem hi] using h4
  | 5, hi => simpa [Array.getElem?_eq_getElem hi] using h5
  | 6, hi => simpa [Array.getElem?_eq_getElem hi] using h6
  | n + 7, hi => omega

/-- A field of an integer kind: its value. -/
theorem int_field {k : IntKind} {t : TypeId} {n : Nat} {u : Value} {y : DataW H × List MemPlace} (ht : P.underlying t = some (.int k)) (h : DataW.trod enc P w base spare held n t [u] = some y) : ∃ z : Int, u = .int k z ∧ (Lit.int k z).wf = true := by
  obtain ⟨z, e, _, hw⟩ := DataW.trod_int ht h
  simp at e
  exact ⟨z, e, hw⟩
theorem string_field {t : TypeId} {n : Nat} {u : Value} {y : DataW H × List MemPlace} (ht : P.underlying t = some .string) (h : DataW.trod enc P w base spare held n t [u] = some y) : ∃ s : ByteArray, u = .string s ∧ s.size ≤ maxLen := by
  obtain ⟨z, e, _, hw⟩ := DataW.trod_string ht h
  simp at e
  exact ⟨z, e, hw⟩
theorem bool_field {t : TypeId} {n : Nat} {u : Value} {y : DataW H × List MemPlace} (ht : P.underlying t = some .bool) (h : DataW.trod enc P w base spare held n t [u] = some y) : ∃ z : Bool, u = .bool z := by
  obtain ⟨z, e, _⟩ := DataW.trod_bool ht h
  simp at e
  exact ⟨z, e⟩
end
end Go.Proofs.Ytokjdnfohbabgaa
