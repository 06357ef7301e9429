/-
  Drawn inits.
-/
import Derived.Test.YtegjbhngkhdcfaaInit
import Derived.Test.YtegjbhngkhdcfaaDrawLong
import Derived.WalkLawsBesides
namespace Go.Proofs.Ytegjbhngkhdcfaa
set_option linter.unusedVariables false
set_option linter.unusedSimpArgs false
open Go.RowKit

/-- An init is handed back, the reader may have moved on. -/
def RdInit (w : World) (g k : Nat) (e : Ending) (w' : World) : Prop :=
  ∃ a b c d : Int, e = .returned (.agg #[.int .i64 a, .int .i64 b, .int .i64 c, .int .i64 d]) ∧ -1 ≤ a ∧ a ≤ 4294967296 ∧ -1 ≤ b ∧ b ≤ 65536 ∧ -1 ≤ c ∧ c ≤ 65536 ∧ -1 ≤ d ∧ d ≤ 65536 ∧ Rd w' g k ∧ w.grownBy w' (some g)
set_option maxHeartbeats 2000000 in
theorem c_l91Init (g k : Nat) (w : World) (hR : Rd w g k) (hk : k ≤ 75000) : Calls Try.prog 40 #[.pointer (some ⟨g, 0, none⟩)] w (RdInit w g (k + 20)) := by
  have hgw := hR.lt
  go_enter Try.func40, Try.ntmps40
  go_wp2_with fail
  refine (c_pick g k 9 _ (hR.alloc _) (by omega) (by omega)).mono ?_
  rintro e w1 ⟨a, rfl, ha0, ha1, hR1, hg1⟩
  have hb1 := (Blk.new w 27 #[.int .i64 0, .int .i64 0, .int .i64 0, .int .i64 0]).grown hg1 (by omega)
  have G1 := Lib.hid (only_trans (only_alloc (only_refl w g) _) hg1)
  clear hg1
  go_wp2_with fail
  refine (c_pick g (k + 1) 4 _ hR1 (by omega) (by omega)).mono ?_
  rintro e w2 ⟨c, rfl, hc0, hc1, hR2, hg2⟩
  have hB2 := hb1.grown hg2 (by omega)
  have G2 := Lib.hid (only_trans G1.out hg2)
  clear hg2 hb1 G1
  go_wp2_with fail
  refine (c_l91Good g (k + 1 + 1) _ hR2 (by omega)).mono ?_
  rintro e w3 ⟨d, rfl, hd0, hd1, hR3, hg3⟩
  have hB3 := hB2.grown hg3 (by omega)
  have G3 := Lib.hid (only_trans G2.out hg3)
  have hz := hB3.lt
  clear hg3 hB2 G2
  go_wp2_with fail
  refine (c_pick g (k + 1 + 1 + 3) 20 _ (hR3.alloc _) (by omega) (by omega)).mono ?_
  rintro e w4 ⟨v, rfl, hv0, hv1, hR4, hg4⟩
  have hT0 := (hB3.alloc _).grown hg4 (by omega)
  have hT1 := (Blk.new w3 27 #[.int .i64 (1 + a), .int .i64 1000, .int .i64 (1 + c), .int .i64 d]).grown hg4 (by have := hR3.lt; omega)
  have G4 := Lib.hid (only_trans (only_alloc G3.out _) hg4)
  have hz4 := hT1.lt
  clear hg4 hB3 G3
  by_cases h4 : 4 ≤ v
  · obtain ⟨⟨c0, c1, c2, c3⟩, f0, f1, f2, f3⟩ := hT0.get4
    obtain ⟨⟨d0, d1, d2, d3⟩, e0, e1, e2, e3⟩ := hT1.get4
    have hv2 : v ≠ 0 ∧ v ≠ 1 ∧ v ≠ 2 ∧ v ≠ 3 := by omega
    clear hT0 hT1
    go_wp2
    refine bodyPost_ret (v := .agg #[.int .i64 (1 + a), .int .i64 1000, .int .i64 (1 + c), .int .i64 d]) (by simp [results, Try.results40, go_sem, c0, c1, c2, c3, d0, d1, d2, d3]) rfl ?_
    refine ⟨_, _, _, _, rfl, by omega, by omega, by omega, by omega, by omega, by omega, by omega, by omega, ?_, ?_⟩
    · (repeat' (first | with_reducible exact hR4 | with_reducible refine Rd.mono hR4 ?_ | with_reducible refine Rd.setCell ?_ ?_ _ | with_reducible refine Rd.alloc ?_ _ | with_reducible refine Rd.drewN ?_ _ | with_reducible refine Rd.drew ?_ | omega | (simp; done) | (simp; omega)))
    · (repeat' (first | with_reducible exact G4.out | with_reducible exact only_refl _ _ | with_reducible refine only_setCell ?_ (.inr ?_) _ | with_reducible refine only_alloc ?_ _ | with_reducible refine only_drewN ?_ _ | with_reducible refine only_drew ?_ | omega | (simp; done) | (simp; omega)))
  · rcases (show v = 0 ∨ v = 1 ∨ v = 2 ∨ v = 3 by omega) with rfl | rfl | rfl | rfl
    · go_wp2_with fail
      refine (c_l91Long g (k + 1 + 1 + 3 + 1) _ hR4 (by omega)).mono ?_
      rintro e w5 ⟨x, rfl, hx0, hx1, hR5, hg5⟩
      obtain ⟨⟨c0, c1, c2, c3⟩, f0, f1, f2, f3⟩ := (hT0.grown hg5 (by omega)).get4
      obtain ⟨⟨d0, d1, d2, d3⟩, e0, e1, e2, e3⟩ := (hT1.grown hg5 (by omega)).get4
      have G5 := Lib.hid (only_trans G4.out hg5)
      clear hg5 hT0 hT1 G4
      go_wp2
      refine bodyPost_ret (v := .agg #[.int .i64 x, .int .i64 1000, .int .i64 (1 + c), .int .i64 d]) (by simp [results, Try.results40, go_sem, c0, c1, c2, c3, d0, d1, d2, d3]) rfl ?_
      refine ⟨_, _, _, _, rfl, by omega, by omega, by omega, by omega, by omega, by omega, by omega, by omega, ?_, ?_⟩
      · (repeat' (first | with_reducible exact hR5 | with_reducible refine Rd.mono hR5 ?_ | with_reducible refine Rd.setCell ?_ ?_ _ | with_reducible refine Rd.alloc ?_ _ | with_reducible refine Rd.drewN ?_ _ | with_reducible refine Rd.drew ?_ | omega | (simp; done) | (simp; omega)))
      · (repeat' (first | with_reducible exact G5.out | with_reducible exact only_refl _ _ | with_reducible refine only_setCell ?_ (.inr ?_) _ | with_reducible refine only_alloc ?_ _ | with_reducible refine only_drewN ?_ _ | with_reducible refine only_drew ?_ | omega | (simp; done) | (simp; omega)))
    · go_wp2_with fail
      refine (c_l91Word g (k + 1 + 1 + 3 + 1) _ hR4 (by omega)).mono ?_
      rintro e w5 ⟨x, rfl, hx0, hx1, hR5, hg5⟩
      obtain ⟨⟨c0, c1, c2, c3⟩, f0, f1, f2, f3⟩ := (hT0.grown hg5 (by omega)).get4
      obtain ⟨⟨d0, d1, d2, d3⟩, e0, e1, e2, e3⟩ := (hT1.grown hg5 (by omega)).get4
      have G5 := Lib.hid (only_trans G4.out hg5)
      clear hg5 hT0 hT1 G4
      go_wp2
      refine bodyPost_ret (v := .agg #[.int .i64 (1 + a), .int .i64 x, .int .i64 (1 + c), .int .i64 d]) (by simp [results, Try.results40, go_sem, c0, c1, c2, c3, d0, d1, d2, d3]) rfl ?_
      refine ⟨_, _, _, _, rfl, by omega, by omega, by omega, by omega, by omega, by omega, by omega, by omega, ?_, ?_⟩
      · (repeat' (first | with_reducible exact hR5 | with_reducible refine Rd.mono hR5 ?_ | with_reducible refine Rd.setCell ?_ ?_ _ | with_reducible refine Rd.alloc ?_ _ | with_reducible refine Rd.drewN ?_ _ | with_reducible refine Rd.drew ?_ | omega | (simp; done) | (simp; omega)))
      · (repeat' (first | with_reducible exact G5.out | with_reducible exact only_refl _ _ | with_reducible refine only_setCell ?_ (.inr ?_) _ | with_reducible refine only_alloc ?_ _ | with_reducible refine only_drewN ?_ _ | with_reducible refine only_drew ?_ | omega | (simp; done) | (simp; omega)))
    · go_wp2_with fail
      refine (c_pick g (k + 1 + 1 + 3 + 1) 7 _ hR4 (by omega) (by omega)).mono ?_
      rintro e w5 ⟨x, rfl, hx0, hx1, hR5, hg5⟩
      obtain ⟨⟨c0, c1, c2, c3⟩, f0, f1, f2, f3⟩ := (hT0.grown hg5 (by omega)).get4
      obtain ⟨⟨d0, d1, d2, d3⟩, e0, e1, e2, e3⟩ := (hT1.grown hg5 (by omega)).get4
      have G5 := Lib.hid (only_trans G4.out hg5)
      clear hg5 hT0 hT1 G4
      go_wp2
      refine bodyPost_ret (v := .agg #[.int .i64 (1 + a), .int .i64 1000, .int .i64 (x - 1), .int .i64 d]) (by simp [results, Try.results40, go_sem, c0, c1, c2, c3, d0, d1, d2, d3]) rfl ?_
      refine ⟨_, _, _, _, rfl, by omega, by omega, by omega, by omega, by omega, by omega, by omega, by omega, ?_, ?_⟩
      · (repeat' (first | with_reducible exact hR5 | with_reducible refine Rd.mono hR5 ?_ | with_reducible refine Rd.setCell ?_ ?_ _ | with_reducible refine Rd.alloc ?_ _ | with_reducible refine Rd.drewN ?_ _ | with_reducible refine Rd.drew ?_ | omega | (simp; done) | (simp; omega)))
      · (repeat' (first | with_reducible exact G5.out | with_reducible exact only_refl _ _ | with_reducible refine only_setCell ?_ (.inr ?_) _ | with_reducible refine only_alloc ?_ _ | with_reducible refine only_drewN ?_ _ | with_reducible refine only_drew ?_ | omega | (simp; done) | (simp; omega)))
    · go_wp2_with fail
      refine (c_l91Word g (k + 1 + 1 + 3 + 1) _ hR4 (by omega)).mono ?_
      rintro e w5 ⟨x, rfl, hx0, hx1, hR5, hg5⟩
      obtain ⟨⟨c0, c1, c2, c3⟩, f0, f1, f2, f3⟩ := (hT0.grown hg5 (by omega)).get4
      obtain ⟨⟨d0, d1, d2, d3⟩, e0, e1, e2, e3⟩ := (hT1.grown hg5 (by omega)).get4
      have G5 := Lib.hid (only_trans G4.out hg5)
      clear hg5 hT0 hT1 G4
      go_wp2
      refine bodyPost_ret (v := .agg #[.int .i64 (1 + a), .int .i64 1000, .int .i64 (1 + c), .int .i64 x]) (by simp [results, Try.results40, go_sem, c0, c1, c2, c3, d0, d1, d2, d3]) rfl ?_
      refine ⟨_, _, _, _, rfl, by omega, by omega, by omega, by omega, by omega, by omega, by omega, by omega, ?_, ?_⟩
      · (repeat' (first | with_reducible exact hR5 | with_reducible refine Rd.mono hR5 ?_ | with_reducible refine Rd.setCell ?_ ?_ _ | with_reducible refine Rd.alloc ?_ _ | with_reducible refine Rd.drewN ?_ _ | with_reducible refine Rd.drew ?_ | omega | (simp; done) | (simp; omega)))
      · (repeat' (first | with_reducible exact G5.out | with_reducible exact only_refl _ _ | with_reducible refine only_setCell ?_ (.inr ?_) _ | with_reducible refine only_alloc ?_ _ | with_reducible refine only_drewN ?_ _ | with_reducible refine only_drew ?_ | omega | (simp; done) | (simp; omega)))
end Go.Proofs.Ytegjbhngkhdcfaa
