/-
  The inits that the laws draw.
-/
import Derived.Test.YtegjbhngkhdcfaaDrawAny
import Derived.Test.YtegjbhngkhdcfaaDrawInit
import Derived.Test.YtegjbhngkhdcfaaPutV
namespace Go.Proofs.Ytegjbhngkhdcfaa
set_option linter.unusedVariables false
set_option linter.unusedSimpArgs false
open Go.RowKit

/-- A drawn init and an answer, and nothing old turned. -/
def DrInit (w : World) (e : Ending) (w' : World) : Prop :=
  ∃ (a b c d : Int) (ans : Bool), e = .returned (.tuple #[.agg #[.int .i64 a, .int .i64 b, .int .i64 c, .int .i64 d], .bool ans]) ∧ -1 ≤ a ∧ a ≤ 4294967296 ∧ -1 ≤ b ∧ b ≤ 65536 ∧ -1 ≤ c ∧ c ≤ 65536 ∧ -1 ≤ d ∧ d ≤ 65536 ∧ Below w.heap.size w w'
set_option maxHeartbeats 2000000 in
theorem c_DrawInitPut (a : Option Addr) (n c : Nat) (w : World) (hC : Code w a n c) : Calls Try.prog 34 #[.slice a n c] w (DrInit w) := by
  go_enter Try.func34, Try.ntmps34
  go_wp2_with fail
  refine (c_l6Open a n c _ (hC.below ((Below.refl _ _).alloc (Nat.le_refl _) _))).mono ?_
  rintro e w1 ⟨g, rfl, hg, hR, hb⟩
  have hQ := (Blk.new w 27 #[.int .i64 0, .int .i64 0, .int .i64 0, .int .i64 0]).below hb (by simp)
  have hg2 : w.heap.size < g := by simp at hg; omega
  have B1 := Lib.hid (below_step ((Below.refl w.heap.size w).alloc (Nat.le_refl _) _) (by simp) hb)
  clear hb hg
  go_wp2_with fail
  refine (c_l91Init g 0 _ hR (by omega)).mono ?_
  rintro e w2 ⟨x, y, z, u, rfl, hx0, hx1, hy0, hy1, hz0, hz1, hu0, hu1, hR2, hg3⟩
  have hQ2 := hQ.grown hg3 (by omega)
  have B2 := Lib.hid (below_only B1.out hg3 B1.out.size (by omega))
  have hlt := hR2.lt
  have hz2 := B2.out.size
  have hQl := hQ2.lt
  have hQl1 := Nat.lt_succ_of_lt hQl
  obtain ⟨⟨d0, d1, d2, d3⟩, e0, e1, e2, e3⟩ := hQ2.get4
  clear hg3 B1 hQ hR hQ2
  go_wp2_with fail
  go_region_with (go_at_call 41; refine (c_pick g 20 2 _ (by (repeat' (first | with_reducible exact hR2 | with_reducible refine Rd.mono hR2 ?_ | with_reducible refine Rd.setCell ?_ ?_ _ | with_reducible refine Rd.alloc ?_ _ | with_reducible refine Rd.drewN ?_ _ | with_reducible refine Rd.drew ?_ | omega | (simp; done) | (simp; omega)))) (by omega) (by omega)).mono ?_; rintro e w4 ⟨v, rfl, hv0, hv1, hR4, hg4⟩; have kc := gcell hg4; have kf := gfroz hg4; have hz4 := hg4.size; (simp at hz4); have B4 := Lib.hid (below_only (B := w.heap.size) (a := w) (by (repeat' (first | with_reducible exact B2.out | with_reducible exact Below.refl _ _ | with_reducible refine below_drew1 ?_ | with_reducible refine below_drewN ?_ _ | with_reducible refine Below.alloc ?_ ?_ _ | with_reducible refine Below.setCell ?_ ?_ _ | omega | (simp; done) | (simp; omega)))) hg4 (by first | omega | (simp; done) | (simp; omega)) (by omega)); clear hg4; have hne : w.heap.size ≠ g := (by omega); have hne2 : w2.heap.size ≠ g := (by omega))
  all_goals go_wp2
  all_goals
    refine bodyPost_ret (v := .tuple #[.agg #[.int .i64 x, .int .i64 y, .int .i64 z, .int .i64 u], .bool (v == 0)]) (by simp [results, Try.results34, go_sem, d0, d1, d2, d3, kc, hne, hQl, hQl1]) rfl ?_
    refine ⟨_, _, _, _, _, rfl, by omega, by omega, by omega, by omega, by omega, by omega, by omega, by omega, ?_⟩
    (repeat' (first | with_reducible exact B4.out | with_reducible exact Below.refl _ _ | with_reducible refine below_drew1 ?_ | with_reducible refine below_drewN ?_ _ | with_reducible refine Below.alloc ?_ ?_ _ | with_reducible refine Below.setCell ?_ ?_ _ | omega | (simp; done) | (simp; omega)))
set_option maxHeartbeats 2000000 in
theorem c_DrawInitGet (a : Option Addr) (n c : Nat) (w : World) (hC : Code w a n c) : Calls Try.prog 17 #[.slice a n c] w (DrCh w) := by
  go_enter Try.func17, Try.ntmps17
  go_wp2_with fail
  refine (c_l6Open a n c _ (hC.below ((Below.refl _ _).alloc (Nat.le_refl _) _))).mono ?_
  rintro e w1 ⟨g, rfl, hg, hR, hb⟩
  have hQ := (Blk.new w 24 #[.int .i64 0, .int .i64 0, .string ⟨#[]⟩]).below hb (by simp)
  have hg2 : w.heap.size < g := by simp at hg; omega
  have B1 := Lib.hid (below_step ((Below.refl w.heap.size w).alloc (Nat.le_refl _) _) (by simp) hb)
  clear hb hg
  go_wp2_with fail
  refine (c_l91Init g 0 _ hR (by omega)).mono ?_
  rintro e w2 ⟨x, y, z, u, rfl, hx0, hx1, hy0, hy1, hz0, hz1, hu0, hu1, hR2, hg3⟩
  have hQ2 := hQ.grown hg3 (by omega)
  have B2 := Lib.hid (below_only B1.out hg3 B1.out.size (by omega))
  clear hg3 B1 hQ hR
  go_wp2_with fail
  refine (c_pick g _ 2 _ hR2 (by omega) (by omega)).mono ?_
  rintro e w3 ⟨v, rfl, hv0, hv1, hR3, hg4⟩
  have hQ3 := hQ2.grown hg4 (by omega)
  have B3 := Lib.hid (below_only B2.out hg4 B2.out.size (by omega))
  clear hg4 B2 hQ2 hR2
  go_wp2_with fail
  refine (c_sInitPut x y z u _ _).mono ?_
  rintro e w4 ⟨rfl, h4⟩
  have hr := ipK_range x y z u (v == 0)
  have hs := ipS_size x y z u
  have hQ4 := hQ3.below h4 hQ3.lt
  have hR4 := hR3.below h4 hR3.lt
  have B4 := Lib.hid (below_step B3.out B3.out.size h4)
  clear h4 B3 hQ3 hR3
  obtain ⟨hr0, hr1⟩ := hr
  generalize ipK x y z u (v == 0) = kd at *
  generalize ipS x y z u = s at *
  go_wp2_with fail
  refine (c_l91Any g _ kd 0 s _ (hR4.alloc _) (by omega) (by omega) (by omega) (by omega) (by omega) (by omega)).mono ?_
  rintro e w5 ⟨p, q, t, rfl, hp0, hp1, hq0, hq1, ht, hR5, hg5⟩
  obtain ⟨⟨d0, d1, d2⟩, e0, e1, e2⟩ := ((hQ4.alloc _).grown hg5 (by omega)).get3n
  have B5 := Lib.hid (below_only (B4.out.alloc B4.out.size _) hg5 (Nat.le_trans B4.out.size (by simp)) (by omega))
  clear hg5 B4 hQ4 hR4
  go_wp2
  refine bodyPost_ret (v := .agg #[.int .i64 p, .int .i64 q, .string t]) (by simp [results, Try.results17, go_sem, d0, d1, d2]) rfl ?_
  refine ⟨p, q, t, rfl, hp0, hp1, hq0, hq1, ht, ?_⟩
  (repeat' (first | with_reducible exact B5.out | with_reducible exact Below.refl _ _ | with_reducible refine below_drew1 ?_ | with_reducible refine below_drewN ?_ _ | with_reducible refine Below.alloc ?_ ?_ _ | with_reducible refine Below.setCell ?_ ?_ _ | omega | (simp; done) | (simp; omega)))
end Go.Proofs.Ytegjbhngkhdcfaa
