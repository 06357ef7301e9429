/-
  Drawn parts.
-/
import Derived.Test.YtegjbhngkhdcfaaData
import Derived.Test.YtegjbhngkhdcfaaPutV
import Derived.Test.YtegjbhngkhdcfaaDrawLong
import Derived.Test.YtegjbhngkhdcfaaDrawAny
namespace Go.Proofs.Ytegjbhngkhdcfaa
set_option linter.unusedVariables false
set_option linter.unusedSimpArgs false
open Go.RowKit

/-- A part is handed back, the reader may have moved on. -/
def RdPart (w : World) (g k : Nat) (e : Ending) (w' : World) : Prop :=
  ∃ (a b c : Int) (f l o : Bool) (s : ByteArray), e = .returned (.agg #[.int .i64 a, .int .i64 b, .int .i64 c, .bool f, .bool l, .bool o, .string s]) ∧ -1 ≤ a ∧ a ≤ 65536 ∧ -1 ≤ b ∧ b ≤ 65536 ∧ -1 ≤ c ∧ c ≤ 65536 ∧ s.size ≤ 21 ∧ Rd w' g k ∧ w.grownBy w' (some g)
set_option maxRecDepth 100000 in
set_option maxHeartbeats 8000000 in
theorem c_l91Part (g k : Nat) (w : World) (hR : Rd w g k) (hk : k ≤ 70000) : Calls Try.prog 57 #[.pointer (some ⟨g, 0, none⟩)] w (RdPart w g (k + 40)) := by
  have hgw := hR.lt
  go_enter Try.func57, Try.ntmps57
  go_wp2_with fail
  refine (c_l91Good g k _ (hR.alloc _) (by omega)).mono ?_
  rintro e w1 ⟨a, rfl, ha0, ha1, hR1, hg1⟩
  have hB1 := (Blk.new w 43 #[.int .i64 0, .int .i64 0, .int .i64 0, .bool false, .bool false, .bool false, .string ⟨#[]⟩]).grown hg1 (by omega)
  have G1 := Lib.hid (only_trans (only_alloc (only_refl w g) _) hg1)
  clear hg1
  go_wp2_with fail
  refine (c_pick g (k + 3) 3 _ hR1 (by omega) (by omega)).mono ?_
  rintro e w2 ⟨b, rfl, hb0, hb1, hR2, hg2⟩
  have hB2 := hB1.grown hg2 (by omega)
  have G2 := Lib.hid (only_trans G1.out hg2)
  clear hg2 hB1 G1
  go_wp2_with fail
  refine (c_pick g (k + 3 + 1) 4 _ hR2 (by omega) (by omega)).mono ?_
  rintro e w3 ⟨c, rfl, hc0, hc1, hR3, hg3⟩
  have hB3 := hB2.grown hg3 (by omega)
  have G3 := Lib.hid (only_trans G2.out hg3)
  clear hg3 hB2 G2
  go_wp2_with fail
  refine (c_l91Bytes g (k + 3 + 1 + 1) 6 _ hR3 (by omega) (by omega)).mono ?_
  rintro e w4 ⟨s, rfl, hs, hR4, hg4⟩
  have hB4 := hB3.grown hg4 (by omega)
  have G4 := Lib.hid (only_trans G3.out hg4)
  have hz := hB4.lt
  have hz2 := hR4.lt
  have hso : ¬ 9223372036854775807 < s.size + 1 := by omega
  have hsz := Lib.hid (show (s ++ ⟨#[116]⟩ : ByteArray).size ≤ 7 by rw [ByteArray.size_append]; show s.size + 1 ≤ 7; omega)
  clear hg4 hB3 G3 hs
  go_wp2_with fail
  refine (c_pick g (k + 3 + 1 + 1 + 1 + 2 * 6) 2 _ (by (repeat' (first | with_reducible exact hR4 | with_reducible refine Rd.mono hR4 ?_ | with_reducible refine Rd.setCell ?_ ?_ _ | with_reducible refine Rd.alloc ?_ _ | with_reducible refine Rd.drewN ?_ _ | with_reducible refine Rd.drew ?_ | omega | (simp; done) | (simp; omega)))) (by omega) (by omega)).mono ?_
  rintro e w5 ⟨v1, rfl, hv10, hv11, hR5, hg5⟩
  have hT5 : Blk w5 w4.heap.size 43 #[.int .i64 a, .int .i64 b, .int .i64 c, .bool false, .bool false, .bool false, .string (s ++ ⟨#[116]⟩)] := Blk.grown (by (repeat' (first | (with_reducible refine Blk.drewN ?_ _) | (with_reducible refine Blk.drew ?_) | (with_reducible refine Blk.new1 ?hb; case hb => (first | omega | (simp; done) | (simp; omega))) | (with_reducible refine Blk.alloc ?_ _) | (with_reducible refine' Blk.set3_0 ?_ ?hb; case hb => (first | omega | (simp; done) | (simp; omega))) | (with_reducible refine' Blk.set3_1 ?_ ?hb; case hb => (first | omega | (simp; done) | (simp; omega))) | (with_reducible refine' Blk.set3_2 ?_ ?hb; case hb => (first | omega | (simp; done) | (simp; omega))) | (with_reducible refine' Blk.set4_0 ?_ ?hb; case hb => (first | omega | (simp; done) | (simp; omega))) | (with_reducible refine' Blk.set4_1 ?_ ?hb; case hb => (first | omega | (simp; done) | (simp; omega))) | (with_reducible refine' Blk.set4_2 ?_ ?hb; case hb => (first | omega | (simp; done) | (simp; omega))) | (with_reducible refine' Blk.set4_3 ?_ ?hb; case hb => (first | omega | (simp; done) | (simp; omega))) | (with_reducible refine' Blk.set7_0 ?_ ?hb; case hb => (first | omega | (simp; done) | (simp; omega))) | (with_reducible refine' Blk.set7_1 ?_ ?hb; case hb => (first | omega | (simp; done) | (simp; omega))) | (with_reducible refine' Blk.set7_2 ?_ ?hb; case hb => (first | omega | (simp; done) | (simp; omega))) | (with_reducible refine' Blk.set7_3 ?_ ?hb; case hb => (first | omega | (simp; done) | (simp; omega))) | (with_reducible refine' Blk.set7_4 ?_ ?hb; case hb => (first | omega | (simp; done) | (simp; omega))) | (with_reducible refine' Blk.set7_5 ?_ ?hb; case hb => (first | omega | (simp; done) | (simp; omega))) | (with_reducible refine' Blk.set7_6 ?_ ?hb; case hb => (first | omega | (simp; done) | (simp; omega))) | (with_reducible refine Blk.far ?_ ?hb _; case hb => (first | omega | (simp; done) | (simp; omega))) | fail))) hg5 (by omega)
  have hB5 : Blk w5 w.heap.size 43 #[.int .i64 0, .int .i64 0, .int .i64 0, .bool false, .bool false, .bool false, .string ⟨#[]⟩] := Blk.grown (by (repeat' (first | (with_reducible exact hB4) | (with_reducible refine Blk.drewN ?_ _) | (with_reducible refine Blk.drew ?_) | (with_reducible refine Blk.new1 ?hb; case hb => (first | omega | (simp; done) | (simp; omega))) | (with_reducible refine Blk.alloc ?_ _) | (with_reducible refine' Blk.set3_0 ?_ ?hb; case hb => (first | omega | (simp; done) | (simp; omega))) | (with_reducible refine' Blk.set3_1 ?_ ?hb; case hb => (first | omega | (simp; done) | (simp; omega))) | (with_reducible refine' Blk.set3_2 ?_ ?hb; case hb => (first | omega | (simp; done) | (simp; omega))) | (with_reducible refine' Blk.set4_0 ?_ ?hb; case hb => (first | omega | (simp; done) | (simp; omega))) | (with_reducible refine' Blk.set4_1 ?_ ?hb; case hb => (first | omega | (simp; done) | (simp; omega))) | (with_reducible refine' Blk.set4_2 ?_ ?hb; case hb => (first | omega | (simp; done) | (simp; omega))) | (with_reducible refine' Blk.set4_3 ?_ ?hb; case hb => (first | omega | (simp; done) | (simp; omega))) | (with_reducible refine' Blk.set7_0 ?_ ?hb; case hb => (first | omega | (simp; done) | (simp; omega))) | (with_reducible refine' Blk.set7_1 ?_ ?hb; case hb => (first | omega | (simp; done) | (simp; omega))) | (with_reducible refine' Blk.set7_2 ?_ ?hb; case hb => (first | omega | (simp; done) | (simp; omega))) | (with_reducible refine' Blk.set7_3 ?_ ?hb; case hb => (first | omega | (simp; done) | (simp; omega))) | (with_reducible refine' Blk.set7_4 ?_ ?hb; case hb => (first | omega | (simp; done) | (simp; omega))) | (with_reducible refine' Blk.set7_5 ?_ ?hb; case hb => (first | omega | (simp; done) | (simp; omega))) | (with_reducible refine' Blk.set7_6 ?_ ?hb; case hb => (first | omega | (simp; done) | (simp; omega))) | (with_reducible refine Blk.far ?_ ?hb _; case hb => (first | omega | (simp; done) | (simp; omega))) | fail))) hg5 (by omega)
  have G5 := Lib.hid (only_trans (a := w) (g := g) (by (repeat' (first | with_reducible exact G4.out | with_reducible exact only_refl _ _ | with_reducible refine only_setCell ?_ (.inr ?_) _ | with_reducible refine only_alloc ?_ _ | with_reducible refine only_drewN ?_ _ | with_reducible refine only_drew ?_ | omega | (simp; done) | (simp; omega)))) hg5)
  have y5 := hT5.lt
  clear hg5  hB4 G4
  obtain ⟨⟨d0, d1, d2, d3, d4, d5, d6⟩, e0, e1, e2, e3, e4, e5, e6⟩ := hT5.get7
  go_wp2_with fail
  clear d0 d1 d2 d3 d4 d5 d6 e0 e1 e2 e3 e4 e5 e6
  refine (c_pick g (k + 3 + 1 + 1 + 1 + 2 * 6 + 1) 2 _ (by (repeat' (first | with_reducible exact hR5 | with_reducible refine Rd.mono hR5 ?_ | with_reducible refine Rd.setCell ?_ ?_ _ | with_reducible refine Rd.alloc ?_ _ | with_reducible refine Rd.drewN ?_ _ | with_reducible refine Rd.drew ?_ | omega | (simp; done) | (simp; omega)))) (by omega) (by omega)).mono ?_
  rintro e w6 ⟨v2, rfl, hv20, hv21, hR6, hg6⟩
  have hT6 : Blk w6 w4.heap.size 43 #[.int .i64 a, .int .i64 b, .int .i64 c, .bool (v1 == 0), .bool false, .bool false, .string (s ++ ⟨#[116]⟩)] := Blk.grown (by (repeat' (first | (with_reducible exact hT5) | (with_reducible refine Blk.drewN ?_ _) | (with_reducible refine Blk.drew ?_) | (with_reducible refine Blk.new1 ?hb; case hb => (first | omega | (simp; done) | (simp; omega))) | (with_reducible refine Blk.alloc ?_ _) | (with_reducible refine' Blk.set3_0 ?_ ?hb; case hb => (first | omega | (simp; done) | (simp; omega))) | (with_reducible refine' Blk.set3_1 ?_ ?hb; case hb => (first | omega | (simp; done) | (simp; omega))) | (with_reducible refine' Blk.set3_2 ?_ ?hb; case hb => (first | omega | (simp; done) | (simp; omega))) | (with_reducible refine' Blk.set4_0 ?_ ?hb; case hb => (first | omega | (simp; done) | (simp; omega))) | (with_reducible refine' Blk.set4_1 ?_ ?hb; case hb => (first | omega | (simp; done) | (simp; omega))) | (with_reducible refine' Blk.set4_2 ?_ ?hb; case hb => (first | omega | (simp; done) | (simp; omega))) | (with_reducible refine' Blk.set4_3 ?_ ?hb; case hb => (first | omega | (simp; done) | (simp; omega))) | (with_reducible refine' Blk.set7_0 ?_ ?hb; case hb => (first | omega | (simp; done) | (simp; omega))) | (with_reducible refine' Blk.set7_1 ?_ ?hb; case hb => (first | omega | (simp; done) | (simp; omega))) | (with_reducible refine' Blk.set7_2 ?_ ?hb; case hb => (first | omega | (simp; done) | (simp; omega))) | (with_reducible refine' Blk.set7_3 ?_ ?hb; case hb => (first | omega | (simp; done) | (simp; omega))) | (with_reducible refine' Blk.set7_4 ?_ ?hb; case hb => (first | omega | (simp; done) | (simp; omega))) | (with_reducible refine' Blk.set7_5 ?_ ?hb; case hb => (first | omega | (simp; done) | (simp; omega))) | (with_reducible refine' Blk.set7_6 ?_ ?hb; case hb => (first | omega | (simp; done) | (simp; omega))) | (with_reducible refine Blk.far ?_ ?hb _; case hb => (first | omega | (simp; done) | (simp; omega))) | fail))) hg6 (by omega)
  have hB6 : Blk w6 w.heap.size 43 #[.int .i64 0, .int .i64 0, .int .i64 0, .bool false, .bool false, .bool false, .string ⟨#[]⟩] := Blk.grown (by (repeat' (first | (with_reducible exact hB5) | (with_reducible refine Blk.drewN ?_ _) | (with_reducible refine Blk.drew ?_) | (with_reducible refine Blk.new1 ?hb; case hb => (first | omega | (simp; done) | (simp; omega))) | (with_reducible refine Blk.alloc ?_ _) | (with_reducible refine' Blk.set3_0 ?_ ?hb; case hb => (first | omega | (simp; done) | (simp; omega))) | (with_reducible refine' Blk.set3_1 ?_ ?hb; case hb => (first | omega | (simp; done) | (simp; omega))) | (with_reducible refine' Blk.set3_2 ?_ ?hb; case hb => (first | omega | (simp; done) | (simp; omega))) | (with_reducible refine' Blk.set4_0 ?_ ?hb; case hb => (first | omega | (simp; done) | (simp; omega))) | (with_reducible refine' Blk.set4_1 ?_ ?hb; case hb => (first | omega | (simp; done) | (simp; omega))) | (with_reducible refine' Blk.set4_2 ?_ ?hb; case hb => (first | omega | (simp; done) | (simp; omega))) | (with_reducible refine' Blk.set4_3 ?_ ?hb; case hb => (first | omega | (simp; done) | (simp; omega))) | (with_reducible refine' Blk.set7_0 ?_ ?hb; case hb => (first | omega | (simp; done) | (simp; omega))) | (with_reducible refine' Blk.set7_1 ?_ ?hb; case hb => (first | omega | (simp; done) | (simp; omega))) | (with_reducible refine' Blk.set7_2 ?_ ?hb; case hb => (first | omega | (simp; done) | (simp; omega))) | (with_reducible refine' Blk.set7_3 ?_ ?hb; case hb => (first | omega | (simp; done) | (simp; omega))) | (with_reducible refine' Blk.set7_4 ?_ ?hb; case hb => (first | omega | (simp; done) | (simp; omega))) | (with_reducible refine' Blk.set7_5 ?_ ?hb; case hb => (first | omega | (simp; done) | (simp; omega))) | (with_reducible refine' Blk.set7_6 ?_ ?hb; case hb => (first | omega | (simp; done) | (simp; omega))) | (with_reducible refine Blk.far ?_ ?hb _; case hb => (first | omega | (simp; done) | (simp; omega))) | fail))) hg6 (by omega)
  have G6 := Lib.hid (only_trans (a := w) (g := g) (by (repeat' (first | with_reducible exact G5.out | with_reducible exact only_refl _ _ | with_reducible refine only_setCell ?_ (.inr ?_) _ | with_reducible refine only_alloc ?_ _ | with_reducible refine only_drewN ?_ _ | with_reducible refine only_drew ?_ | omega | (simp; done) | (simp; omega)))) hg6)
  have y6 := hT6.lt
  clear hg6 hT5 hB5 G5
  obtain ⟨⟨d0, d1, d2, d3, d4, d5, d6⟩, e0, e1, e2, e3, e4, e5, e6⟩ := hT6.get7
  go_wp2_with fail
  clear d0 d1 d2 d3 d4 d5 d6 e0 e1 e2 e3 e4 e5 e6
  refine (c_pick g (k + 3 + 1 + 1 + 1 + 2 * 6 + 1 + 1) 4 _ (by (repeat' (first | with_reducible exact hR6 | with_reducible refine Rd.mono hR6 ?_ | with_reducible refine Rd.setCell ?_ ?_ _ | with_reducible refine Rd.alloc ?_ _ | with_reducible refine Rd.drewN ?_ _ | with_reducible refine Rd.drew ?_ | omega | (simp; done) | (simp; omega)))) (by omega) (by omega)).mono ?_
  rintro e w7 ⟨v3, rfl, hv30, hv31, hR7, hg7⟩
  have hT7 : Blk w7 w4.heap.size 43 #[.int .i64 a, .int .i64 b, .int .i64 c, .bool (v1 == 0), .bool (v2 == 0), .bool false, .string (s ++ ⟨#[116]⟩)] := Blk.grown (by (repeat' (first | (with_reducible exact hT6) | (with_reducible refine Blk.drewN ?_ _) | (with_reducible refine Blk.drew ?_) | (with_reducible refine Blk.new1 ?hb; case hb => (first | omega | (simp; done) | (simp; omega))) | (with_reducible refine Blk.alloc ?_ _) | (with_reducible refine' Blk.set3_0 ?_ ?hb; case hb => (first | omega | (simp; done) | (simp; omega))) | (with_reducible refine' Blk.set3_1 ?_ ?hb; case hb => (first | omega | (simp; done) | (simp; omega))) | (with_reducible refine' Blk.set3_2 ?_ ?hb; case hb => (first | omega | (simp; done) | (simp; omega))) | (with_reducible refine' Blk.set4_0 ?_ ?hb; case hb => (first | omega | (simp; done) | (simp; omega))) | (with_reducible refine' Blk.set4_1 ?_ ?hb; case hb => (first | omega | (simp; done) | (simp; omega))) | (with_reducible refine' Blk.set4_2 ?_ ?hb; case hb => (first | omega | (simp; done) | (simp; omega))) | (with_reducible refine' Blk.set4_3 ?_ ?hb; case hb => (first | omega | (simp; done) | (simp; omega))) | (with_reducible refine' Blk.set7_0 ?_ ?hb; case hb => (first | omega | (simp; done) | (simp; omega))) | (with_reducible refine' Blk.set7_1 ?_ ?hb; case hb => (first | omega | (simp; done) | (simp; omega))) | (with_reducible refine' Blk.set7_2 ?_ ?hb; case hb => (first | omega | (simp; done) | (simp; omega))) | (with_reducible refine' Blk.set7_3 ?_ ?hb; case hb => (first | omega | (simp; done) | (simp; omega))) | (with_reducible refine' Blk.set7_4 ?_ ?hb; case hb => (first | omega | (simp; done) | (simp; omega))) | (with_reducible refine' Blk.set7_5 ?_ ?hb; case hb => (first | omega | (simp; done) | (simp; omega))) | (with_reducible refine' Blk.set7_6 ?_ ?hb; case hb => (first | omega | (simp; done) | (simp; omega))) | (with_reducible refine Blk.far ?_ ?hb _; case hb => (first | omega | (simp; done) | (simp; omega))) | fail))) hg7 (by omega)
  have hB7 : Blk w7 w.heap.size 43 #[.int .i64 0, .int .i64 0, .int .i64 0, .bool false, .bool false, .bool false, .string ⟨#[]⟩] := Blk.grown (by (repeat' (first | (with_reducible exact hB6) | (with_reducible refine Blk.drewN ?_ _) | (with_reducible refine Blk.drew ?_) | (with_reducible refine Blk.new1 ?hb; case hb => (first | omega | (simp; done) | (simp; omega))) | (with_reducible refine Blk.alloc ?_ _) | (with_reducible refine' Blk.set3_0 ?_ ?hb; case hb => (first | omega | (simp; done) | (simp; omega))) | (with_reducible refine' Blk.set3_1 ?_ ?hb; case hb => (first | omega | (simp; done) | (simp; omega))) | (with_reducible refine' Blk.set3_2 ?_ ?hb; case hb => (first | omega | (simp; done) | (simp; omega))) | (with_reducible refine' Blk.set4_0 ?_ ?hb; case hb => (first | omega | (simp; done) | (simp; omega))) | (with_reducible refine' Blk.set4_1 ?_ ?hb; case hb => (first | omega | (simp; done) | (simp; omega))) | (with_reducible refine' Blk.set4_2 ?_ ?hb; case hb => (first | omega | (simp; done) | (simp; omega))) | (with_reducible refine' Blk.set4_3 ?_ ?hb; case hb => (first | omega | (simp; done) | (simp; omega))) | (with_reducible refine' Blk.set7_0 ?_ ?hb; case hb => (first | omega | (simp; done) | (simp; omega))) | (with_reducible refine' Blk.set7_1 ?_ ?hb; case hb => (first | omega | (simp; done) | (simp; omega))) | (with_reducible refine' Blk.set7_2 ?_ ?hb; case hb => (first | omega | (simp; done) | (simp; omega))) | (with_reducible refine' Blk.set7_3 ?_ ?hb; case hb => (first | omega | (simp; done) | (simp; omega))) | (with_reducible refine' Blk.set7_4 ?_ ?hb; case hb => (first | omega | (simp; done) | (simp; omega))) | (with_reducible refine' Blk.set7_5 ?_ ?hb; case hb => (first | omega | (simp; done) | (simp; omega))) | (with_reducible refine' Blk.set7_6 ?_ ?hb; case hb => (first | omega | (simp; done) | (simp; omega))) | (with_reducible refine Blk.far ?_ ?hb _; case hb => (first | omega | (simp; done) | (simp; omega))) | fail))) hg7 (by omega)
  have G7 := Lib.hid (only_trans (a := w) (g := g) (by (repeat' (first | with_reducible exact G6.out | with_reducible exact only_refl _ _ | with_reducible refine only_setCell ?_ (.inr ?_) _ | with_reducible refine only_alloc ?_ _ | with_reducible refine only_drewN ?_ _ | with_reducible refine only_drew ?_ | omega | (simp; done) | (simp; omega)))) hg7)
  have y7 := hT7.lt
  clear hg7 hT6 hB6 G6
  obtain ⟨⟨d0, d1, d2, d3, d4, d5, d6⟩, e0, e1, e2, e3, e4, e5, e6⟩ := hT7.get7
  go_wp2_with fail
  clear d0 d1 d2 d3 d4 d5 d6 e0 e1 e2 e3 e4 e5 e6
  refine (c_pick g (k + 3 + 1 + 1 + 1 + 2 * 6 + 1 + 1 + 1) 20 _ (by (repeat' (first | with_reducible exact hR7 | with_reducible refine Rd.mono hR7 ?_ | with_reducible refine Rd.setCell ?_ ?_ _ | with_reducible refine Rd.alloc ?_ _ | with_reducible refine Rd.drewN ?_ _ | with_reducible refine Rd.drew ?_ | omega | (simp; done) | (simp; omega)))) (by omega) (by omega)).mono ?_
  rintro e w8 ⟨v, rfl, hv0, hv1, hR8, hg8⟩
  have hT8 : Blk w8 w4.heap.size 43 #[.int .i64 a, .int .i64 b, .int .i64 c, .bool (v1 == 0), .bool (v2 == 0), .bool (v3 == 0), .string (s ++ ⟨#[116]⟩)] := Blk.grown (by (repeat' (first | (with_reducible exact hT7) | (with_reducible refine Blk.drewN ?_ _) | (with_reducible refine Blk.drew ?_) | (with_reducible refine Blk.new1 ?hb; case hb => (first | omega | (simp; done) | (simp; omega))) | (with_reducible refine Blk.alloc ?_ _) | (with_reducible refine' Blk.set3_0 ?_ ?hb; case hb => (first | omega | (simp; done) | (simp; omega))) | (with_reducible refine' Blk.set3_1 ?_ ?hb; case hb => (first | omega | (simp; done) | (simp; omega))) | (with_reducible refine' Blk.set3_2 ?_ ?hb; case hb => (first | omega | (simp; done) | (simp; omega))) | (with_reducible refine' Blk.set4_0 ?_ ?hb; case hb => (first | omega | (simp; done) | (simp; omega))) | (with_reducible refine' Blk.set4_1 ?_ ?hb; case hb => (first | omega | (simp; done) | (simp; omega))) | (with_reducible refine' Blk.set4_2 ?_ ?hb; case hb => (first | omega | (simp; done) | (simp; omega))) | (with_reducible refine' Blk.set4_3 ?_ ?hb; case hb => (first | omega | (simp; done) | (simp; omega))) | (with_reducible refine' Blk.set7_0 ?_ ?hb; case hb => (first | omega | (simp; done) | (simp; omega))) | (with_reducible refine' Blk.set7_1 ?_ ?hb; case hb => (first | omega | (simp; done) | (simp; omega))) | (with_reducible refine' Blk.set7_2 ?_ ?hb; case hb => (first | omega | (simp; done) | (simp; omega))) | (with_reducible refine' Blk.set7_3 ?_ ?hb; case hb => (first | omega | (simp; done) | (simp; omega))) | (with_reducible refine' Blk.set7_4 ?_ ?hb; case hb => (first | omega | (simp; done) | (simp; omega))) | (with_reducible refine' Blk.set7_5 ?_ ?hb; case hb => (first | omega | (simp; done) | (simp; omega))) | (with_reducible refine' Blk.set7_6 ?_ ?hb; case hb => (first | omega | (simp; done) | (simp; omega))) | (with_reducible refine Blk.far ?_ ?hb _; case hb => (first | omega | (simp; done) | (simp; omega))) | fail))) hg8 (by omega)
  have hB8 : Blk w8 w.heap.size 43 #[.int .i64 0, .int .i64 0, .int .i64 0, .bool false, .bool false, .bool false, .string ⟨#[]⟩] := Blk.grown (by (repeat' (first | (with_reducible exact hB7) | (with_reducible refine Blk.drewN ?_ _) | (with_reducible refine Blk.drew ?_) | (with_reducible refine Blk.new1 ?hb; case hb => (first | omega | (simp; done) | (simp; omega))) | (with_reducible refine Blk.alloc ?_ _) | (with_reducible refine' Blk.set3_0 ?_ ?hb; case hb => (first | omega | (simp; done) | (simp; omega))) | (with_reducible refine' Blk.set3_1 ?_ ?hb; case hb => (first | omega | (simp; done) | (simp; omega))) | (with_reducible refine' Blk.set3_2 ?_ ?hb; case hb => (first | omega | (simp; done) | (simp; omega))) | (with_reducible refine' Blk.set4_0 ?_ ?hb; case hb => (first | omega | (simp; done) | (simp; omega))) | (with_reducible refine' Blk.set4_1 ?_ ?hb; case hb => (first | omega | (simp; done) | (simp; omega))) | (with_reducible refine' Blk.set4_2 ?_ ?hb; case hb => (first | omega | (simp; done) | (simp; omega))) | (with_reducible refine' Blk.set4_3 ?_ ?hb; case hb => (first | omega | (simp; done) | (simp; omega))) | (with_reducible refine' Blk.set7_0 ?_ ?hb; case hb => (first | omega | (simp; done) | (simp; omega))) | (with_reducible refine' Blk.set7_1 ?_ ?hb; case hb => (first | omega | (simp; done) | (simp; omega))) | (with_reducible refine' Blk.set7_2 ?_ ?hb; case hb => (first | omega | (simp; done) | (simp; omega))) | (with_reducible refine' Blk.set7_3 ?_ ?hb; case hb => (first | omega | (simp; done) | (simp; omega))) | (with_reducible refine' Blk.set7_4 ?_ ?hb; case hb => (first | omega | (simp; done) | (simp; omega))) | (with_reducible refine' Blk.set7_5 ?_ ?hb; case hb => (first | omega | (simp; done) | (simp; omega))) | (with_reducible refine' Blk.set7_6 ?_ ?hb; case hb => (first | omega | (simp; done) | (simp; omega))) | (with_reducible refine Blk.far ?_ ?hb _; case hb => (first | omega | (simp; done) | (simp; omega))) | fail))) hg8 (by omega)
  have G8 := Lib.hid (only_trans (a := w) (g := g) (by (repeat' (first | with_reducible exact G7.out | with_reducible exact only_refl _ _ | with_reducible refine only_setCell ?_ (.inr ?_) _ | with_reducible refine only_alloc ?_ _ | with_reducible refine only_drewN ?_ _ | with_reducible refine only_drew ?_ | omega | (simp; done) | (simp; omega)))) hg8)
  have y8 := hT8.lt
  clear hg8 hT7 hB7 G7 y5 y6 y7
  by_cases h5 : 5 ≤ v
  · have hv2 : v ≠ 0 ∧ v ≠ 1 ∧ v ≠ 2 ∧ v ≠ 3 ∧ v ≠ 4 := by omega
    obtain ⟨⟨d0, d1, d2, d3, d4, d5, d6⟩, e0, e1, e2, e3, e4, e5, e6⟩ := hT8.get7
    obtain ⟨⟨c0, c1, c2, c3, c4, c5, c6⟩, f0, f1, f2, f3, f4, f5, f6⟩ := hB8.get7
    clear hT8 hB8
    go_wp2
    refine bodyPost_ret (v := .agg #[.int .i64 a, .int .i64 b, .int .i64 c, .bool (v1 == 0), .bool (v2 == 0), .bool (v3 == 0), .string (s ++ ⟨#[116]⟩)]) (by simp [results, Try.results57, go_sem, c0, c1, c2, c3, c4, c5, c6, d0, d1, d2, d3, d4, d5, d6]) rfl ?_
    have hso2 := hsz.out
    refine ⟨_, _, _, _, _, _, _, rfl, by omega, by omega, by omega, by omega, by omega, by omega, by omega, ?_, ?_⟩
    · (repeat' (first | with_reducible exact hR8 | with_reducible refine Rd.mono hR8 ?_ | with_reducible refine Rd.setCell ?_ ?_ _ | with_reducible refine Rd.alloc ?_ _ | with_reducible refine Rd.drewN ?_ _ | with_reducible refine Rd.drew ?_ | omega | (simp; done) | (simp; omega)))
    · (repeat' (first | with_reducible exact G8.out | with_reducible exact only_refl _ _ | with_reducible refine only_setCell ?_ (.inr ?_) _ | with_reducible refine only_alloc ?_ _ | with_reducible refine only_drewN ?_ _ | with_reducible refine only_drew ?_ | omega | (simp; done) | (simp; omega)))
  · rcases (show v = 0 ∨ v = 1 ∨ v = 2 ∨ v = 3 ∨ v = 4 by omega) with rfl | rfl | rfl | rfl | rfl
    · go_wp2_with fail
      refine (c_pick g (k + 3 + 1 + 1 + 1 + 2 * 6 + 1 + 1 + 1 + 1) 3 _ hR8 (by omega) (by omega)).mono ?_
      rintro e w9 ⟨x, rfl, hx0, hx1, hR9, hg9⟩
      have hT9 := hT8.grown hg9 (by omega)
      have hB9 := hB8.grown hg9 (by omega)
      have G9 := Lib.hid (only_trans G8.out hg9)
      clear hg9 hT8 hB8 G8
      obtain ⟨m, rfl⟩ := Int.eq_ofNat_of_zero_le hx0
      go_wp2_with fail
      refine (c_l6Many ⟨#[121]⟩ (19 + m) 21 _ (by show 1 * _ ≤ _; omega) (by omega) (by show 1 ≤ 10; omega) (by omega)).mono ?_
      rintro e w10 ⟨t, rfl, ht, rfl⟩
      obtain ⟨⟨d0, d1, d2, d3, d4, d5, d6⟩, e0, e1, e2, e3, e4, e5, e6⟩ := hT9.get7
      obtain ⟨⟨c0, c1, c2, c3, c4, c5, c6⟩, f0, f1, f2, f3, f4, f5, f6⟩ := hB9.get7
      clear hT9 hB9
      go_wp2
      refine bodyPost_ret (v := .agg #[.int .i64 a, .int .i64 b, .int .i64 c, .bool (v1 == 0), .bool (v2 == 0), .bool (v3 == 0), .string t]) (by simp [results, Try.results57, go_sem, c0, c1, c2, c3, c4, c5, c6, d0, d1, d2, d3, d4, d5, d6]) rfl ?_
      have hso2 := hsz.out
      refine ⟨_, _, _, _, _, _, _, rfl, by omega, by omega, by omega, by omega, by omega, by omega, by omega, ?_, ?_⟩
      · (repeat' (first | with_reducible exact hR9 | with_reducible refine Rd.mono hR9 ?_ | with_reducible refine Rd.setCell ?_ ?_ _ | with_reducible refine Rd.alloc ?_ _ | with_reducible refine Rd.drewN ?_ _ | with_reducible refine Rd.drew ?_ | omega | (simp; done) | (simp; omega)))
      · (repeat' (first | with_reducible exact G9.out | with_reducible exact only_refl _ _ | with_reducible refine only_setCell ?_ (.inr ?_) _ | with_reducible refine only_alloc ?_ _ | with_reducible refine only_drewN ?_ _ | with_reducible refine only_drew ?_ | omega | (simp; done) | (simp; omega)))
    · skip
      obtain ⟨⟨d0, d1, d2, d3, d4, d5, d6⟩, e0, e1, e2, e3, e4, e5, e6⟩ := hT8.get7
      obtain ⟨⟨c0, c1, c2, c3, c4, c5, c6⟩, f0, f1, f2, f3, f4, f5, f6⟩ := hB8.get7
      clear hT8 hB8
      go_wp2
      refine bodyPost_ret (v := .agg #[.int .i64 a, .int .i64 b, .int .i64 c, .bool (v1 == 0), .bool (v2 == 0), .bool (v3 == 0), .string ⟨#[]⟩]) (by simp [results, Try.results57, go_sem, c0, c1, c2, c3, c4, c5, c6, d0, d1, d2, d3, d4, d5, d6]) rfl ?_
      have hso2 := hsz.out
      refine ⟨_, _, _, _, _, _, _, rfl, by omega, by omega, by omega, by omega, by omega, by omega, by show 0 ≤ 21; omega, ?_, ?_⟩
      · (repeat' (first | with_reducible exact hR8 | with_reducible refine Rd.mono hR8 ?_ | with_reducible refine Rd.setCell ?_ ?_ _ | with_reducible refine Rd.alloc ?_ _ | with_reducible refine Rd.drewN ?_ _ | with_reducible refine Rd.drew ?_ | omega | (simp; done) | (simp; omega)))
      · (repeat' (first | with_reducible exact G8.out | with_reducible exact only_refl _ _ | with_reducible refine only_setCell ?_ (.inr ?_) _ | with_reducible refine only_alloc ?_ _ | with_reducible refine only_drewN ?_ _ | with_reducible refine only_drew ?_ | omega | (simp; done) | (simp; omega)))
    · go_wp2_with fail
      refine (c_l91Word g (k + 3 + 1 + 1 + 1 + 2 * 6 + 1 + 1 + 1 + 1) _ hR8 (by omega)).mono ?_
      rintro e w9 ⟨x, rfl, hx0, hx1, hR9, hg9⟩
      have hT9 := hT8.grown hg9 (by omega)
      have hB9 := hB8.grown hg9 (by omega)
      have G9 := Lib.hid (only_trans G8.out hg9)
      clear hg9 hT8 hB8 G8
      obtain ⟨⟨d0, d1, d2, d3, d4, d5, d6⟩, e0, e1, e2, e3, e4, e5, e6⟩ := hT9.get7
      obtain ⟨⟨c0, c1, c2, c3, c4, c5, c6⟩, f0, f1, f2, f3, f4, f5, f6⟩ := hB9.get7
      clear hT9 hB9
      go_wp2
      refine bodyPost_ret (v := .agg #[.int .i64 x, .int .i64 b, .int .i64 c, .bool (v1 == 0), .bool (v2 == 0), .bool (v3 == 0), .string (s ++ ⟨#[116]⟩)]) (by simp [results, Try.results57, go_sem, c0, c1, c2, c3, c4, c5, c6, d0, d1, d2, d3, d4, d5, d6]) rfl ?_
      have hso2 := hsz.out
      refine ⟨_, _, _, _, _, _, _, rfl, by omega, by omega, by omega, by omega, by omega, by omega, by omega, ?_, ?_⟩
      · (repeat' (first | with_reducible exact hR9 | with_reducible refine Rd.mono hR9 ?_ | with_reducible refine Rd.setCell ?_ ?_ _ | with_reducible refine Rd.alloc ?_ _ | with_reducible refine Rd.drewN ?_ _ | with_reducible refine Rd.drew ?_ | omega | (simp; done) | (simp; omega)))
      · (repeat' (first | with_reducible exact G9.out | with_reducible exact only_refl _ _ | with_reducible refine only_setCell ?_ (.inr ?_) _ | with_reducible refine only_alloc ?_ _ | with_reducible refine only_drewN ?_ _ | with_reducible refine only_drew ?_ | omega | (simp; done) | (simp; omega)))
    · go_wp2_with fail
      refine (c_l91Word g (k + 3 + 1 + 1 + 1 + 2 * 6 + 1 + 1 + 1 + 1) _ hR8 (by omega)).mono ?_
      rintro e w9 ⟨x, rfl, hx0, hx1, hR9, hg9⟩
      have hT9 := hT8.grown hg9 (by omega)
      have hB9 := hB8.grown hg9 (by omega)
      have G9 := Lib.hid (only_trans G8.out hg9)
      clear hg9 hT8 hB8 G8
      obtain ⟨⟨d0, d1, d2, d3, d4, d5, d6⟩, e0, e1, e2, e3, e4, e5, e6⟩ := hT9.get7
      obtain ⟨⟨c0, c1, c2, c3, c4, c5, c6⟩, f0, f1, f2, f3, f4, f5, f6⟩ := hB9.get7
      clear hT9 hB9
      go_wp2
      refine bodyPost_ret (v := .agg #[.int .i64 a, .int .i64 x, .int .i64 c, .bool (v1 == 0), .bool (v2 == 0), .bool (v3 == 0), .string (s ++ ⟨#[116]⟩)]) (by simp [results, Try.results57, go_sem, c0, c1, c2, c3, c4, c5, c6, d0, d1, d2, d3, d4, d5, d6]) rfl ?_
      have hso2 := hsz.out
      refine ⟨_, _, _, _, _, _, _, rfl, by omega, by omega, by omega, by omega, by omega, by omega, by omega, ?_, ?_⟩
      · (repeat' (first | with_reducible exact hR9 | with_reducible refine Rd.mono hR9 ?_ | with_reducible refine Rd.setCell ?_ ?_ _ | with_reducible refine Rd.alloc ?_ _ | with_reducible refine Rd.drewN ?_ _ | with_reducible refine Rd.drew ?_ | omega | (simp; done) | (simp; omega)))
      · (repeat' (first | with_reducible exact G9.out | with_reducible exact only_refl _ _ | with_reducible refine only_setCell ?_ (.inr ?_) _ | with_reducible refine only_alloc ?_ _ | with_reducible refine only_drewN ?_ _ | with_reducible refine only_drew ?_ | omega | (simp; done) | (simp; omega)))
    · go_wp2_with fail
      refine (c_l91Word g (k + 3 + 1 + 1 + 1 + 2 * 6 + 1 + 1 + 1 + 1) _ hR8 (by omega)).mono ?_
      rintro e w9 ⟨x, rfl, hx0, hx1, hR9, hg9⟩
      have hT9 := hT8.grown hg9 (by omega)
      have hB9 := hB8.grown hg9 (by omega)
      have G9 := Lib.hid (only_trans G8.out hg9)
      clear hg9 hT8 hB8 G8
      obtain ⟨⟨d0, d1, d2, d3, d4, d5, d6⟩, e0, e1, e2, e3, e4, e5, e6⟩ := hT9.get7
      obtain ⟨⟨c0, c1, c2, c3, c4, c5, c6⟩, f0, f1, f2, f3, f4, f5, f6⟩ := hB9.get7
      clear hT9 hB9
      go_wp2
      refine bodyPost_ret (v := .agg #[.int .i64 a, .int .i64 b, .int .i64 x, .bool (v1 == 0), .bool (v2 == 0), .bool (v3 == 0), .string (s ++ ⟨#[116]⟩)]) (by simp [results, Try.results57, go_sem, c0, c1, c2, c3, c4, c5, c6, d0, d1, d2, d3, d4, d5, d6]) rfl ?_
      have hso2 := hsz.out
      refine ⟨_, _, _, _, _, _, _, rfl, by omega, by omega, by omega, by omega, by omega, by omega, by omega, ?_, ?_⟩
      · (repeat' (first | with_reducible exact hR9 | with_reducible refine Rd.mono hR9 ?_ | with_reducible refine Rd.setCell ?_ ?_ _ | with_reducible refine Rd.alloc ?_ _ | with_reducible refine Rd.drewN ?_ _ | with_reducible refine Rd.drew ?_ | omega | (simp; done) | (simp; omega)))
      · (repeat' (first | with_reducible exact G9.out | with_reducible exact only_refl _ _ | with_reducible refine only_setCell ?_ (.inr ?_) _ | with_reducible refine only_alloc ?_ _ | with_reducible refine only_drewN ?_ _ | with_reducible refine only_drew ?_ | omega | (simp; done) | (simp; omega)))
/-- A drawn part, and nothing old turned. -/
def DrPart (w : World) (e : Ending) (w' : World) : Prop :=
  ∃ (a b c : Int) (f l o : Bool) (s : ByteArray), e = .returned (.agg #[.int .i64 a, .int .i64 b, .int .i64 c, .bool f, .bool l, .bool o, .string s]) ∧ -1 ≤ a ∧ a ≤ 65536 ∧ -1 ≤ b ∧ b ≤ 65536 ∧ -1 ≤ c ∧ c ≤ 65536 ∧ s.size ≤ 21 ∧ Below w.heap.size w w'
set_option maxRecDepth 100000 in
set_option maxHeartbeats 2000000 in
theorem c_DrawDataPut (a : Option Addr) (n c : Nat) (w : World) (hC : Code w a n c) : Calls Try.prog 36 #[.slice a n c] w (DrPart w) := by
  go_enter Try.func36, Try.ntmps36
  go_wp2_with fail
  refine (c_l6Open a n c _ (hC.below ((Below.refl _ _).alloc (Nat.le_refl _) _))).mono ?_
  rintro e w1 ⟨g, rfl, hg, hR, hb⟩
  have hQ := (Blk.new w 43 #[.int .i64 0, .int .i64 0, .int .i64 0, .bool false, .bool false, .bool false, .string ⟨#[]⟩]).below hb (by simp)
  have hg2 : w.heap.size < g := by simp at hg; omega
  have B1 := Lib.hid (below_step ((Below.refl w.heap.size w).alloc (Nat.le_refl _) _) (by simp) hb)
  clear hb hg
  go_wp2_with fail
  refine (c_l91Part g 0 _ hR (by omega)).mono ?_
  rintro e w2 ⟨x, y, z, f, l, o, s, rfl, hx0, hx1, hy0, hy1, hz0, hz1, hs, hR2, hg3⟩
  obtain ⟨⟨c0, c1, c2, c3, c4, c5, c6⟩, f0, f1, f2, f3, f4, f5, f6⟩ := (hQ.grown hg3 (by omega)).get7
  have B2 := Lib.hid (below_only B1.out hg3 B1.out.size (by omega))
  clear hg3 B1 hQ hR
  go_wp2
  refine bodyPost_ret (v := .agg #[.int .i64 x, .int .i64 y, .int .i64 z, .bool f, .bool l, .bool o, .string s]) (by simp [results, Try.results36, go_sem, c0, c1, c2, c3, c4, c5, c6]) rfl ?_
  refine ⟨x, y, z, f, l, o, s, rfl, hx0, hx1, hy0, hy1, hz0, hz1, hs, ?_⟩
  (repeat' (first | with_reducible exact B2.out | with_reducible exact Below.refl _ _ | with_reducible refine below_drew1 ?_ | with_reducible refine below_drewN ?_ _ | with_reducible refine Below.alloc ?_ ?_ _ | with_reducible refine Below.setCell ?_ ?_ _ | omega | (simp; done) | (simp; omega)))
set_option maxRecDepth 100000 in
set_option maxHeartbeats 2000000 in
theorem c_DrawDataGet (a : Option Addr) (n c : Nat) (w : World) (hC : Code w a n c) : Calls Try.prog 38 #[.slice a n c] w (DrCh w) := by
  go_enter Try.func38, Try.ntmps38
  go_wp2_with fail
  refine (c_l6Open a n c _ (hC.below ((Below.refl _ _).alloc (Nat.le_refl _) _))).mono ?_
  rintro e w1 ⟨g, rfl, hg, hR, hb⟩
  have hQ := (Blk.new w 24 #[.int .i64 0, .int .i64 0, .string ⟨#[]⟩]).below hb (by simp)
  have hg2 : w.heap.size < g := by simp at hg; omega
  have B1 := Lib.hid (below_step ((Below.refl w.heap.size w).alloc (Nat.le_refl _) _) (by simp) hb)
  clear hb hg
  go_wp2_with fail
  refine (c_l91Part g 0 _ hR (by omega)).mono ?_
  rintro e w2 ⟨x, y, z, f, l, o, s, rfl, hx0, hx1, hy0, hy1, hz0, hz1, hs, hR2, hg3⟩
  have hQ2 := hQ.grown hg3 (by omega)
  have B2 := Lib.hid (below_only B1.out hg3 B1.out.size (by omega))
  clear hg3 B1 hQ hR
  go_wp2_with fail
  refine (c_sDataPut x y z f l o s _ (by unfold maxLen; omega)).mono ?_
  rintro e w4 ⟨rfl, h4⟩
  obtain ⟨hr0, hr1⟩ := dpF_range x y z f l o s
  have hds := dpS_size x y z s
  have hQ4 := hQ2.below h4 hQ2.lt
  have hR4 := hR2.below h4 hR2.lt
  have B4 := Lib.hid (below_step B2.out B2.out.size h4)
  clear h4 B2 hQ2 hR2
  generalize dpF x y z f l o s = fl at *
  generalize dpS x y z s = t at *
  go_wp2_with fail
  refine (c_l91Any g _ 0 fl t _ (hR4.alloc _) (by omega) (by omega) (by omega) (by omega) (by omega) (by omega)).mono ?_
  rintro e w5 ⟨p, q, u, rfl, hp0, hp1, hq0, hq1, ht, hR5, hg5⟩
  obtain ⟨⟨d0, d1, d2⟩, e0, e1, e2⟩ := ((hQ4.alloc _).grown hg5 (by omega)).get3n
  have B5 := Lib.hid (below_only (B4.out.alloc B4.out.size _) hg5 (Nat.le_trans B4.out.size (by simp)) (by omega))
  clear hg5 B4 hQ4 hR4
  go_wp2
  refine bodyPost_ret (v := .agg #[.int .i64 p, .int .i64 q, .string u]) (by simp [results, Try.results38, go_sem, d0, d1, d2]) rfl ?_
  refine ⟨p, q, u, rfl, hp0, hp1, hq0, hq1, ht, ?_⟩
  (repeat' (first | with_reducible exact B5.out | with_reducible exact Below.refl _ _ | with_reducible refine below_drew1 ?_ | with_reducible refine below_drewN ?_ _ | with_reducible refine Below.alloc ?_ ?_ _ | with_reducible refine Below.setCell ?_ ?_ _ | omega | (simp; done) | (simp; omega)))
end Go.Proofs.Ytegjbhngkhdcfaa
