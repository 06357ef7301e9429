/-
  Opening a code; a drawn kind; the names of the kinds.
-/
import Derived.Test.YtokjdnfohbabgaaReader
import Derived.Test.YtokjdnfohbabgaaWords
import Derived.Test.YtokjdnfohbabgaaOpen
namespace Go.Proofs.Ytokjdnfohbabgaa
set_option linter.unusedVariables false
set_option linter.unusedSimpArgs false
open Go.RowKit

/-- A new reader. -/
def RdNew (w : World) (e : Ending) (w' : World) : Prop := ∃ g, e = .returned (.pointer (some ⟨g, 0, none⟩)) ∧ w.heap.size ≤ g ∧ Rd w' g 0 ∧ Below w.heap.size w w'
theorem c_l6Open (a : Option Addr) (n c : Nat) (w : World) (hC : Code w a n c) :
    Calls Try.prog 34 #[.slice a n c] w (RdNew w) := by
  obtain ⟨hnc, hcm, hr⟩ := hC
  unfold maxLen at hcm
  have hcell := fun (W : World) (cs : Array Value) (t : TypeId) => (Below.refl W.heap.size W).alloc (Nat.le_refl _) (.cells cs t)
  by_cases h : 2000 < n
  · obtain ⟨b, off, rfl, hb, hv⟩ := hr (by omega)
    clear hr
    go_enter Try.func34, Try.ntmps34
    go_wp2
    go_ret
    refine ⟨w.heap.size, rfl, Nat.le_refl _, ⟨0, some ⟨b, off, none⟩, 2000, c, by omega, by omega, heap_alloc_new w _, by omega, fun _ => ⟨b, off, rfl, hb, fun i hi => ?_⟩⟩, hcell w _ _⟩
    obtain ⟨v, h1, h2, h3⟩ := hv i (by omega)
    exact ⟨v, h1, h2, (World.cell?_alloc_lt w _ _ hb).trans h3⟩
  · go_enter Try.func34, Try.ntmps34
    go_wp2
    go_ret
    refine ⟨w.heap.size, rfl, Nat.le_refl _, ⟨0, a, n, c, by omega, by omega, heap_alloc_new w _, by omega, fun h0 => ?_⟩, hcell w _ _⟩
    obtain ⟨b, off, rfl, hb, hv⟩ := hr h0
    refine ⟨b, off, rfl, hb, fun i hi => ?_⟩
    obtain ⟨v, h1, h2, h3⟩ := hv i hi
    exact ⟨v, h1, h2, (World.cell?_alloc_lt w _ _ hb).trans h3⟩
/-- A drawn number, and nothing old turned. -/
def DrInt (w : World) (lo hi : Int) (e : Ending) (w' : World) : Prop := ∃ v : Int, e = .returned (.int .i64 v) ∧ lo ≤ v ∧ v ≤ hi ∧ Below w.heap.size w w'
end Go.Proofs.Ytokjdnfohbabgaa
