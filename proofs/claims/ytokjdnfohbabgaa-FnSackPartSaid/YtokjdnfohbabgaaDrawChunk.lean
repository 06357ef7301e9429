/-
  A drawn chunk.
-/
import Derived.Test.YtokjdnfohbabgaaDraws
namespace Go.Proofs.Ytokjdnfohbabgaa
set_option linter.unusedVariables false
set_option linter.unusedSimpArgs false
open Go.RowKit

/-- The two blocks of l91Chunk: the result's and the chunk's own. -/
def TwoBlk (w : World) (b0 b1 : Nat) (a b : Int) (s : ByteArray) : Prop :=
  Blk w b0 24 #[.int .i64 0, .int .i64 0, .string ⟨#[]⟩] ∧ Blk w b1 24 #[.int .i64 a, .int .i64 b, .string s]
theorem TwoBlk.grown {w w' : World} {b0 b1 g : Nat} {a b : Int} {s : ByteArray} (h : TwoBlk w b0 b1 a b s) (hg : w.grownBy w' (some g)) (h0 : g < b0) (h1 : g < b1) : TwoBlk w' b0 b1 a b s :=
  ⟨h.1.grown hg (by omega), h.2.grown hg (by omega)⟩
theorem TwoBlk.alloc {w : World} {b0 b1 : Nat} {a b : Int} {s : ByteArray} (h : TwoBlk w b0 b1 a b s) (o : Obj) : TwoBlk (w.alloc o) b0 b1 a b s := ⟨h.1.alloc o, h.2.alloc o⟩

theorem c_l91Chunk (g k : Nat) (w : World) (hR : Rd w g k) (hk : k ≤ 80000) :
    Calls Try.prog 58 #[.pointer (some ⟨g, 0, none⟩)] w (RdChunk w g (k + 40)) := by
  have hgw := hR.lt
  go_enter Try.func58, Try.ntmps58
  go_wp2_with fail
  refine (c_pick g k 16 _ (hR.alloc _) (by omega) (by omega)).mono ?_
  rintro e w1 ⟨a, rfl, ha0, ha1, hR1, hg1⟩
  have hb1 := (Blk.new w 24 #[.int .i64 0, .int .i64 0, .string ⟨#[]⟩]).grown hg1 (by omega)
  have G1 := Lib.hid (only_trans (only_alloc (only_refl w g) _) hg1)
  clear hg1
  go_wp2_with fail
  refine (c_pick g (k + 1) 8 _ hR1 (by omega) (by omega)).mono ?_
  rintro e w2 ⟨b, rfl, hb0, hb2, hR2, hg2⟩
  have hB2 := hb1.grown hg2 (by omega)
  have G2 := Lib.hid (only_trans G1.out hg2)
  clear hg2 hb1 G1
  go_wp2_with fail
  refine (c_l91Bytes g (k + 1 + 1) 12 _ hR2 (by omega) (by omega)).mono ?_
  rintro e w3 ⟨s, rfl, hs, hR3, hg3⟩
  have hB3 := hB2.grown hg3 (by omega)
  have G3 := Lib.hid (only_trans G2.out hg3)
  have hz := hB3.lt
  clear hg3 hB2 G2
  go_wp2_with fail
  refine (c_pick g (k + 1 + 1 + 1 + 2 * 12) 20 _ (hR3.alloc _) (by omega) (by omega)).mono ?_
  rintro e w4 ⟨v, rfl, hv0, hv1, hR4, hg4⟩
  have hT : TwoBlk w4 w.heap.size w3.heap.size a b s := TwoBlk.grown ⟨hB3.alloc _, Blk.new _ _ _⟩ hg4 (by omega) (by have := hR3.lt; omega)
  have G4 := Lib.hid (only_trans (only_alloc G3.out _) hg4)
  clear hg4 hB3 G3
  have hne : w.heap.size < w3.heap.size := hz
  by_cases h3 : 3 ≤ v
  · obtain ⟨⟨c0, c1, c2, c3, c4, c5⟩, ⟨d0, d1, d2, d3, d4, d5⟩⟩ := And.intro hT.1.get3 hT.2.get3
    have G := G4.out
    go_wp2
    refine bodyPost_ret (v := .agg #[.int .i64 a, .int .i64 b, .string s]) (by simp [results, Try.results58, go_sem, c0, c1, c2, c3, c4, c5]) rfl ?_
    refine ⟨a, b, s, rfl, by omega, by omega, by omega, by omega, by omega, ?_, ?_⟩
    · exact ((((hR4.mono (by omega)).setCell (by simpa using hgw) _).setCell (by simpa using hgw) _).setCell (by simpa using hgw) _)
    · exact only_setCell (only_setCell (only_setCell G4.out (.inr (by simp)) _) (.inr (by simp)) _) (.inr (by simp)) _
  · rcases (show v = 0 ∨ v = 1 ∨ v = 2 by omega) with hv | hv | hv
    · subst hv
      go_wp2_with fail
      refine (c_pick g (k + 1 + 1 + 1 + 2 * 12 + 1) 3 _ (hR4.alloc _) (by omega) (by omega)).mono ?_
      rintro e w5 ⟨u, rfl, hu0, hu1, hR5, hg5⟩
      obtain ⟨x, hx, hx0, hx1⟩ := lit_picked [-1, 255, 256] (-1) 256 (by decide) u hu0 (by show u < 3; omega) hg5 hR4.lt
      have hT5 := TwoBlk.grown (hT.alloc _) hg5 (by omega) (by omega)
      have G5 := Lib.hid (only_trans (only_alloc G4.out _) hg5)
      clear hg5 hT G4
      obtain ⟨⟨c0, c1, c2, c3, c4, c5⟩, ⟨d0, d1, d2, d3, d4, d5⟩⟩ := And.intro hT5.1.get3 hT5.2.get3
      clear hT5
      go_wp2
      refine bodyPost_ret (v := .agg #[.int .i64 x, .int .i64 b, .string s]) (by simp [results, Try.results58, go_sem, c0, c1, c2, c3, c4, c5]) rfl ?_
      refine ⟨x, b, s, rfl, by omega, by omega, by omega, by omega, by omega, ?_, ?_⟩
      · exact (((((hR5.mono (by omega)).setCell (by simp; omega) _).setCell (by simpa using hgw) _).setCell (by simpa using hgw) _).setCell (by simpa using hgw) _)
      · exact only_setCell (only_setCell (only_setCell (only_setCell G5.out (.inr (by simp; omega)) _) (.inr (by simp)) _) (.inr (by simp)) _) (.inr (by simp)) _
    · subst hv
      go_wp2_with fail
      refine (c_pick g (k + 1 + 1 + 1 + 2 * 12 + 1) 3 _ (hR4.alloc _) (by omega) (by omega)).mono ?_
      rintro e w5 ⟨u, rfl, hu0, hu1, hR5, hg5⟩
      obtain ⟨x, hx, hx0, hx1⟩ := lit_picked [-1, 255, 256] (-1) 256 (by decide) u hu0 (by show u < 3; omega) hg5 hR4.lt
      have hT5 := TwoBlk.grown (hT.alloc _) hg5 (by omega) (by omega)
      have G5 := Lib.hid (only_trans (only_alloc G4.out _) hg5)
      clear hg5 hT G4
      obtain ⟨⟨c0, c1, c2, c3, c4, c5⟩, ⟨d0, d1, d2, d3, d4, d5⟩⟩ := And.intro hT5.1.get3 hT5.2.get3
      clear hT5
      go_wp2
      refine bodyPost_ret (v := .agg #[.int .i64 a, .int .i64 x, .string s]) (by simp [results, Try.results58, go_sem, c0, c1, c2, c3, c4, c5]) rfl ?_
      refine ⟨a, x, s, rfl, by omega, by omega, by omega, by omega, by omega, ?_, ?_⟩
      · exact (((((hR5.mono (by omega)).setCell (by simp; omega) _).setCell (by simpa using hgw) _).setCell (by simpa using hgw) _).setCell (by simpa using hgw) _)
      · exact only_setCell (only_setCell (only_setCell (only_setCell G5.out (.inr (by simp; omega)) _) (.inr (by simp)) _) (.inr (by simp)) _) (.inr (by simp)) _
    · subst hv
      go_wp2_with fail
      refine (c_pick g (k + 1 + 1 + 1 + 2 * 12 + 1) 5 _ hR4 (by omega) (by omega)).mono ?_
      rintro e w5 ⟨u, rfl, hu0, hu1, hR5, hg5⟩
      obtain ⟨m, rfl⟩ := Int.eq_ofNat_of_zero_le hu0
      have hT5 := TwoBlk.grown hT hg5 (by omega) (by omega)
      have G5 := Lib.hid (only_trans G4.out hg5)
      clear hg5 hT G4
      go_wp2_with fail
      refine (c_l6Many ⟨#[98]⟩ (58 + m) 62 _ (by show 1 * _ ≤ _; omega) (by omega) (by show 1 ≤ 10; omega) (by omega)).mono ?_
      rintro e w6 ⟨t, rfl, ht, rfl⟩
      obtain ⟨⟨c0, c1, c2, c3, c4, c5⟩, ⟨d0, d1, d2, d3, d4, d5⟩⟩ := And.intro hT5.1.get3 hT5.2.get3
      clear hT5
      go_wp2
      refine bodyPost_ret (v := .agg #[.int .i64 a, .int .i64 b, .string t]) (by simp [results, Try.results58, go_sem, c0, c1, c2, c3, c4, c5]) rfl ?_
      refine ⟨a, b, t, rfl, by omega, by omega, by omega, by omega, by omega, ?_, ?_⟩
      · exact (((((hR5.mono (by omega)).setCell (by simp; omega) _).setCell (by simpa using hgw) _).setCell (by simpa using hgw) _).setCell (by simpa using hgw) _)
      · exact only_setCell (only_setCell (only_setCell (only_setCell G5.out (.inr (by simp; omega)) _) (.inr (by simp)) _) (.inr (by simp)) _) (.inr (by simp)) _
end Go.Proofs.Ytokjdnfohbabgaa
