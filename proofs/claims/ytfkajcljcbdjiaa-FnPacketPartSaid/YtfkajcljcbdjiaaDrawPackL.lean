/-
  Drawn packets: the drawers themselves.
-/
import Derived.Test.YtfkajcljcbdjiaaDrawPack
namespace Go.Proofs.Ytfkajcljcbdjiaa
set_option linter.unusedVariables false
set_option linter.unusedSimpArgs false
open Go.RowKit

/-- A drawn packet, and nothing old turned. -/
def DrPack (w : World) (e : Ending) (w' : World) : Prop :=
  ∃ (f t tag : Int) (A : Option Addr) (n c : Nat) (xs : List (Int × Int × ByteArray)), e = .returned (.agg #[.int .i64 f, .int .i64 t, .int .i64 tag, .slice A n c]) ∧ -1 ≤ f ∧ f ≤ 65536 ∧ -1 ≤ t ∧ t ≤ 65536 ∧ -1 ≤ tag ∧ tag ≤ 4294967296 ∧ n ≤ 9 ∧ n ≤ c ∧ c ≤ maxLen ∧ ChGood xs ∧ Gaps w' w'.heap.size A n xs ∧ Below w.heap.size w w'
set_option maxRecDepth 100000 in
set_option maxHeartbeats 2000000 in
theorem c_DrawPacketValid (a : Option Addr) (n c : Nat) (w : World) (hC : Code w a n c) : Calls Try.prog 24 #[.slice a n c] w (DrPack w) := by
  go_enter Try.func24, Try.ntmps24
  go_wp2_with fail
  refine (c_l6Open a n c _ (hC.below ((Below.refl _ _).alloc (Nat.le_refl _) _))).mono ?_
  rintro e w1 ⟨g, rfl, hg, hR, hb⟩
  have hQ := (Blk.new w 25 #[.int .i64 0, .int .i64 0, .int .i64 0, .slice none 0 0]).below hb (by simp)
  have hg2 : w.heap.size < g := by simp at hg; omega
  have B1 := Lib.hid (below_step ((Below.refl w.heap.size w).alloc (Nat.le_refl _) _) (by simp) hb)
  clear hb hg
  go_wp2_with fail
  refine (c_l91Packet g 0 _ hR (by omega)).mono ?_
  rintro e w2 ⟨f, t, tag, v, xs, rfl, hf0, hf1, ht0, ht1, htg0, htg1, hl, hgood, hO, hR2, hg3⟩
  obtain ⟨A, c2, rfl, hn1, hn2, hG⟩ := hO.formN rfl
  obtain ⟨m, hm⟩ : ∃ m, xs.length = m := ⟨_, rfl⟩
  rw [hm] at hO hn1 hG hl ⊢
  have hQ2 := hQ.grown hg3 (by omega)
  obtain ⟨⟨d0, d1, d2, d3⟩, e0, e1, e2, e3⟩ := hQ2.get4
  have B2 := Lib.hid (below_only B1.out hg3 B1.out.size (by omega))
  have hw1 := B1.out.size
  have HO := Lib.hid hO
  have HGD := Lib.hid hgood
  have hql := hQ2.lt
  have h1l := hQ.lt
  clear hg3 B1 hQ hR hG hO hQ2 hgood
  go_wp2
  refine bodyPost_ret (v := .agg #[.int .i64 f, .int .i64 t, .int .i64 tag, .slice A m c2]) (by simp [results, Try.results24, go_sem, d0, d1, d2, d3]) rfl ?_
  have HO2 := (((HO.out.old (p := ⟨w.heap.size, 0, none⟩) (by show w.heap.size < _; omega) (.int .i64 f)).old (p := ⟨w.heap.size, 1, none⟩) (by show w.heap.size < _; omega) (.int .i64 t)).old (p := ⟨w.heap.size, 2, none⟩) (by show w.heap.size < _; omega) (.int .i64 tag)).old (p := ⟨w.heap.size, 3, none⟩) (by show w.heap.size < _; omega) (.slice A m c2)
  obtain ⟨A', c', he, h1, h2, h3⟩ := HO2.formN hm
  cases he
  refine ⟨f, t, tag, A, m, c2, xs, rfl, hf0, hf1, ht0, ht1, htg0, htg1, hl, hn1, hn2, HGD.out, ?_, ?_⟩
  · exact h3
  · (repeat' (first | with_reducible exact B2.out | with_reducible exact Below.refl _ _ | with_reducible refine below_drew1 ?_ | with_reducible refine below_drewN ?_ _ | with_reducible refine Below.alloc ?_ ?_ _ | with_reducible refine Below.setCell ?_ ?_ _ | omega | (simp; done) | (simp; omega)))
set_option maxRecDepth 100000 in
set_option maxHeartbeats 2000000 in
theorem c_DrawPacketPut (a : Option Addr) (n c : Nat) (w : World) (hC : Code w a n c) : Calls Try.prog 13 #[.slice a n c] w (DrPack w) := by
  go_enter Try.func13, Try.ntmps13
  go_wp2_with fail
  refine (c_l6Open a n c _ (hC.below ((Below.refl _ _).alloc (Nat.le_refl _) _))).mono ?_
  rintro e w1 ⟨g, rfl, hg, hR, hb⟩
  have hQ := (Blk.new w 25 #[.int .i64 0, .int .i64 0, .int .i64 0, .slice none 0 0]).below hb (by simp)
  have hg2 : w.heap.size < g := by simp at hg; omega
  have B1 := Lib.hid (below_step ((Below.refl w.heap.size w).alloc (Nat.le_refl _) _) (by simp) hb)
  clear hb hg
  go_wp2_with fail
  refine (c_l91Packet g 0 _ hR (by omega)).mono ?_
  rintro e w2 ⟨f, t, tag, v, xs, rfl, hf0, hf1, ht0, ht1, htg0, htg1, hl, hgood, hO, hR2, hg3⟩
  obtain ⟨A, c2, rfl, hn1, hn2, hG⟩ := hO.formN rfl
  obtain ⟨m, hm⟩ : ∃ m, xs.length = m := ⟨_, rfl⟩
  rw [hm] at hO hn1 hG hl ⊢
  have hQ2 := hQ.grown hg3 (by omega)
  obtain ⟨⟨d0, d1, d2, d3⟩, e0, e1, e2, e3⟩ := hQ2.get4
  have B2 := Lib.hid (below_only B1.out hg3 B1.out.size (by omega))
  have hw1 := B1.out.size
  have HO := Lib.hid hO
  have HGD := Lib.hid hgood
  have hql := hQ2.lt
  have h1l := hQ.lt
  clear hg3 B1 hQ hR hG hO hQ2 hgood
  go_wp2
  refine bodyPost_ret (v := .agg #[.int .i64 f, .int .i64 t, .int .i64 tag, .slice A m c2]) (by simp [results, Try.results13, go_sem, d0, d1, d2, d3]) rfl ?_
  have HO2 := (((HO.out.old (p := ⟨w.heap.size, 0, none⟩) (by show w.heap.size < _; omega) (.int .i64 f)).old (p := ⟨w.heap.size, 1, none⟩) (by show w.heap.size < _; omega) (.int .i64 t)).old (p := ⟨w.heap.size, 2, none⟩) (by show w.heap.size < _; omega) (.int .i64 tag)).old (p := ⟨w.heap.size, 3, none⟩) (by show w.heap.size < _; omega) (.slice A m c2)
  obtain ⟨A', c', he, h1, h2, h3⟩ := HO2.formN hm
  cases he
  refine ⟨f, t, tag, A, m, c2, xs, rfl, hf0, hf1, ht0, ht1, htg0, htg1, hl, hn1, hn2, HGD.out, ?_, ?_⟩
  · exact h3
  · (repeat' (first | with_reducible exact B2.out | with_reducible exact Below.refl _ _ | with_reducible refine below_drew1 ?_ | with_reducible refine below_drewN ?_ _ | with_reducible refine Below.alloc ?_ ?_ _ | with_reducible refine Below.setCell ?_ ?_ _ | omega | (simp; done) | (simp; omega)))
end Go.Proofs.Ytfkajcljcbdjiaa
