/-
  A drawn chunk that is often one of a kind; the inits that the laws draw.
-/
import Derived.Test.YtokjdnfohbabgaaDrawChunk
import Derived.Test.YtokjdnfohbabgaaSpoil
import Derived.Test.YtokjdnfohbabgaaStep
import Derived.Deep.RegionWith
namespace Go.Proofs.Ytokjdnfohbabgaa
set_option linter.unusedVariables false
set_option linter.unusedSimpArgs false
open Go.RowKit

set_option maxHeartbeats 2000000 in
theorem c_l91Any (g k : Nat) (a b : Int) (s : ByteArray) (w : World) (hR : Rd w g k) (hk : k ≤ 70000) (ha : -1 ≤ a) (ha1 : a ≤ 256) (hb : -1 ≤ b) (hb1 : b ≤ 256) (hs : s.size ≤ 61) :
    Calls Try.prog 36 #[.pointer (some ⟨g, 0, none⟩), .agg #[.int .i64 a, .int .i64 b, .string s]] w (RdChunk w g (k + 50)) := by
  have hgw := hR.lt
  go_enter Try.func36, Try.ntmps36
  go_wp2_with fail
  refine (c_pick g k 10 _ ((hR.alloc _).alloc _) (by omega) (by omega)).mono ?_
  rintro e w1 ⟨v, rfl, hv0, hv1, hR1, hg1⟩
  have hP : Blk w1 w.heap.size 24 #[.int .i64 a, .int .i64 b, .string s] := Blk.grown ((Blk.new w _ _).alloc _) hg1 (by omega)
  have hQ : Blk w1 (w.heap.size + 1) 24 #[.int .i64 0, .int .i64 0, .string ⟨#[]⟩] := Blk.grown (by simpa using Blk.new (w.alloc _) 24 _) hg1 (by omega)
  have G1 := Lib.hid (only_trans (only_alloc (only_alloc (only_refl w g) _) _) hg1)
  have z1 : w.heap.size + 1 < w1.heap.size := hQ.lt
  clear hg1
  by_cases h4 : 4 ≤ v
  · have hv2 : v ≠ 0 ∧ v ≠ 1 ∧ v ≠ 2 ∧ v ≠ 3 := by omega
    obtain ⟨⟨c0, c1, c2⟩, f0, f1, f2⟩ := hP.get3n
    obtain ⟨⟨d0, d1, d2⟩, e0, e1, e2⟩ := hQ.get3n
    clear hP hQ
    go_wp2
    refine bodyPost_ret (v := .agg #[.int .i64 a, .int .i64 b, .string s]) (by simp [results, Try.results36, go_sem, c0, c1, c2, d0, d1, d2]) rfl ?_
    refine ⟨_, _, _, rfl, by omega, by omega, by omega, by omega, by omega, ?_, ?_⟩
    · (repeat' (first | with_reducible exact hR1 | with_reducible refine Rd.mono hR1 ?_ | with_reducible refine Rd.setCell ?_ ?_ _ | with_reducible refine Rd.alloc ?_ _ | with_reducible refine Rd.drewN ?_ _ | with_reducible refine Rd.drew ?_ | omega | (simp; done) | (simp; omega)))
    · (repeat' (first | with_reducible exact G1.out | with_reducible exact only_refl _ _ | with_reducible refine only_setCell ?_ (.inr ?_) _ | with_reducible refine only_alloc ?_ _ | with_reducible refine only_drewN ?_ _ | with_reducible refine only_drew ?_ | omega | (simp; done) | (simp; omega)))
  · rcases (show v = 0 ∨ v = 1 ∨ v = 2 ∨ v = 3 by omega) with rfl | rfl | rfl | rfl
    · go_wp2_with fail
      refine (c_l91Chunk g (k + 1) _ hR1 (by omega)).mono ?_
      rintro e w2 ⟨x, y, t, rfl, hx0, hx1, hy0, hy1, ht, hR2, hg2⟩
      obtain ⟨⟨d0, d1, d2⟩, e0, e1, e2⟩ := (hQ.grown hg2 (by omega)).get3n
      have G2 := Lib.hid (only_trans G1.out hg2)
      clear hg2 hP hQ G1
      go_wp2
      refine bodyPost_ret (v := .agg #[.int .i64 x, .int .i64 y, .string t]) (by simp [results, Try.results36, go_sem, d0, d1, d2]) rfl ?_
      refine ⟨_, _, _, rfl, by omega, by omega, by omega, by omega, by omega, ?_, ?_⟩
      · (repeat' (first | with_reducible exact hR2 | with_reducible refine Rd.mono hR2 ?_ | with_reducible refine Rd.setCell ?_ ?_ _ | with_reducible refine Rd.alloc ?_ _ | with_reducible refine Rd.drewN ?_ _ | with_reducible refine Rd.drew ?_ | omega | (simp; done) | (simp; omega)))
      · (repeat' (first | with_reducible exact G2.out | with_reducible exact only_refl _ _ | with_reducible refine only_setCell ?_ (.inr ?_) _ | with_reducible refine only_alloc ?_ _ | with_reducible refine only_drewN ?_ _ | with_reducible refine only_drew ?_ | omega | (simp; done) | (simp; omega)))
    · go_wp2_with fail
      refine (c_pick g (k + 1) 10 _ hR1 (by omega) (by omega)).mono ?_
      rintro e w2 ⟨x, rfl, hx0, hx1, hR2, hg2⟩
      obtain ⟨⟨c0, c1, c2⟩, f0, f1, f2⟩ := (hP.grown hg2 (by omega)).get3n
      obtain ⟨⟨d0, d1, d2⟩, e0, e1, e2⟩ := (hQ.grown hg2 (by omega)).get3n
      have G2 := Lib.hid (only_trans G1.out hg2)
      clear hg2 hP hQ G1
      go_wp2
      refine bodyPost_ret (v := .agg #[.int .i64 a, .int .i64 x, .string s]) (by simp [results, Try.results36, go_sem, c0, c1, c2, d0, d1, d2]) rfl ?_
      refine ⟨_, _, _, rfl, by omega, by omega, by omega, by omega, by omega, ?_, ?_⟩
      · (repeat' (first | with_reducible exact hR2 | with_reducible refine Rd.mono hR2 ?_ | with_reducible refine Rd.setCell ?_ ?_ _ | with_reducible refine Rd.alloc ?_ _ | with_reducible refine Rd.drewN ?_ _ | with_reducible refine Rd.drew ?_ | omega | (simp; done) | (simp; omega)))
      · (repeat' (first | with_reducible exact G2.out | with_reducible exact only_refl _ _ | with_reducible refine only_setCell ?_ (.inr ?_) _ | with_reducible refine only_alloc ?_ _ | with_reducible refine only_drewN ?_ _ | with_reducible refine only_drew ?_ | omega | (simp; done) | (simp; omega)))
    · go_wp2_with fail
      refine (c_pick g (k + 1) 5 _ hR1 (by omega) (by omega)).mono ?_
      rintro e w2 ⟨x, rfl, hx0, hx1, hR2, hg2⟩
      obtain ⟨⟨c0, c1, c2⟩, f0, f1, f2⟩ := (hP.grown hg2 (by omega)).get3n
      obtain ⟨⟨d0, d1, d2⟩, e0, e1, e2⟩ := (hQ.grown hg2 (by omega)).get3n
      have G2 := Lib.hid (only_trans G1.out hg2)
      clear hg2 hP hQ G1
      go_wp2
      refine bodyPost_ret (v := .agg #[.int .i64 x, .int .i64 b, .string s]) (by simp [results, Try.results36, go_sem, c0, c1, c2, d0, d1, d2]) rfl ?_
      refine ⟨_, _, _, rfl, by omega, by omega, by omega, by omega, by omega, ?_, ?_⟩
      · (repeat' (first | with_reducible exact hR2 | with_reducible refine Rd.mono hR2 ?_ | with_reducible refine Rd.setCell ?_ ?_ _ | with_reducible refine Rd.alloc ?_ _ | with_reducible refine Rd.drewN ?_ _ | with_reducible refine Rd.drew ?_ | omega | (simp; done) | (simp; omega)))
      · (repeat' (first | with_reducible exact G2.out | with_reducible exact only_refl _ _ | with_reducible refine only_setCell ?_ (.inr ?_) _ | with_reducible refine only_alloc ?_ _ | with_reducible refine only_drewN ?_ _ | with_reducible refine only_drew ?_ | omega | (simp; done) | (simp; omega)))
    · obtain ⟨⟨c0, c1, c2⟩, -⟩ := hP.get3n
      go_wp2_with fail
      refine (c_l91Spoil g (k + 1) s _ hR1 (by omega) (by omega)).mono ?_
      rintro e w2 ⟨t, rfl, ht, hR2, hg2⟩
      clear c0 c1 c2
      obtain ⟨⟨c0, c1, c2⟩, f0, f1, f2⟩ := (hP.grown hg2 (by omega)).get3n
      obtain ⟨⟨d0, d1, d2⟩, e0, e1, e2⟩ := (hQ.grown hg2 (by omega)).get3n
      have G2 := Lib.hid (only_trans G1.out hg2)
      clear hg2 hP hQ G1
      go_wp2
      refine bodyPost_ret (v := .agg #[.int .i64 a, .int .i64 b, .string t]) (by simp [results, Try.results36, go_sem, c0, c1, c2, d0, d1, d2]) rfl ?_
      refine ⟨_, _, _, rfl, by omega, by omega, by omega, by omega, by omega, ?_, ?_⟩
      · (repeat' (first | with_reducible exact hR2 | with_reducible refine Rd.mono hR2 ?_ | with_reducible refine Rd.setCell ?_ ?_ _ | with_reducible refine Rd.alloc ?_ _ | with_reducible refine Rd.drewN ?_ _ | with_reducible refine Rd.drew ?_ | omega | (simp; done) | (simp; omega)))
      · (repeat' (first | with_reducible exact G2.out | with_reducible exact only_refl _ _ | with_reducible refine only_setCell ?_ (.inr ?_) _ | with_reducible refine only_alloc ?_ _ | with_reducible refine only_drewN ?_ _ | with_reducible refine only_drew ?_ | omega | (simp; done) | (simp; omega)))
/-- A drawn chunk, and nothing old turned. -/
def DrCh (w : World) (e : Ending) (w' : World) : Prop :=
  ∃ (a b : Int) (s : ByteArray), e = .returned (.agg #[.int .i64 a, .int .i64 b, .string s]) ∧ -1 ≤ a ∧ a ≤ 256 ∧ -1 ≤ b ∧ b ≤ 256 ∧ s.size ≤ 62 ∧ Below w.heap.size w w'
end Go.Proofs.Ytokjdnfohbabgaa
