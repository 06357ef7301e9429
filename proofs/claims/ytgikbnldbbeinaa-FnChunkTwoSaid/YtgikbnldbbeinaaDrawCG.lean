/-
  A drawn text with chunks, and a place.
-/
import Derived.Test.YtgikbnldbbeinaaSpoil
import Derived.Test.YtgikbnldbbeinaaDrawChunk
import Derived.Test.YtgikbnldbbeinaaSPut
import Derived.Test.YtgikbnldbbeinaaChunkFacts
namespace Go.Proofs.Ytgikbnldbbeinaa
set_option linter.unusedVariables false
set_option linter.unusedSimpArgs false
open Go.RowKit

theorem chunkPutV_size (k f : Int) (s : ByteArray) : (chunkPutV k f s).size ≤ 67 := by
  cases h : chunkOk k f s with
  | false => rw [chunkPutV_no h]; show 0 ≤ 67; omega
  | true =>
    rw [chunkPutV_ok h, cput_size]
    unfold chunkOk at h
    simp at h
    unfold padN; omega
/-- A drawn text and a place, and nothing old turned. -/
def DrText (w : World) (e : Ending) (w' : World) : Prop :=
  ∃ (s : ByteArray) (a : Int), e = .returned (.tuple #[.string s, .int .i64 a]) ∧ s.size ≤ 200 ∧ -2 ≤ a ∧ a ≤ 40 ∧ Below w.heap.size w w'
set_option maxHeartbeats 1000000 in
theorem c_DrawChunkGet (a : Option Addr) (n c : Nat) (w : World) (hC : Code w a n c) :
    Calls Try.prog 9 #[.slice a n c] w (DrText w) := by
  go_enter Try.func9, Try.ntmps9
  go_wp2_with fail
  refine (c_l6Open a n c _ hC).mono ?_
  rintro e w1 ⟨g, rfl, hg, hR, hb⟩
  have B1 := Lib.hid hb
  clear hb
  go_wp2_with fail
  refine (c_l91Chunk g 0 _ hR (by omega)).mono ?_
  rintro e w2 ⟨x, y, s, rfl, _, _, _, _, hs, hR2, hg2⟩
  have B2 := Lib.hid (below_only B1.out hg2 B1.out.size hg)
  clear hg2 B1
  go_wp2_with fail
  refine (c_sChunkPut x y s _ (by unfold maxLen; omega)).mono ?_
  rintro e w3 ⟨rfl, h3⟩
  have hR3 := hR2.below h3 hR2.lt
  have B3 := Lib.hid (below_step B2.out B2.out.size h3)
  have hz1 := chunkPutV_size x y s
  generalize chunkPutV x y s = t1 at *
  clear h3 B2 hR2 hR
  go_wp2_with fail
  refine (c_l91Chunk g _ _ hR3 (by omega)).mono ?_
  rintro e w4 ⟨x2, y2, s2, rfl, _, _, _, _, hs2, hR4, hg4⟩
  have B4 := Lib.hid (below_only B3.out hg4 B3.out.size hg)
  clear hg4 B3
  go_wp2_with fail
  refine (c_sChunkPut x2 y2 s2 _ (by unfold maxLen; omega)).mono ?_
  rintro e w5 ⟨rfl, h5⟩
  have hR5 := hR4.below h5 hR4.lt
  have B5 := Lib.hid (below_step B4.out B4.out.size h5)
  have hz2 := chunkPutV_size x2 y2 s2
  generalize chunkPutV x2 y2 s2 = t2 at *
  have hz3 : ¬ 9223372036854775807 < t1.size + t2.size := by omega
  clear h5 B4 hR4 hR3
  go_wp2_with fail
  refine (c_pick g _ 6 _ hR5 (by omega) (by omega)).mono ?_
  rintro e w6 ⟨v, rfl, hv0, hv1, hR6, hg6⟩
  go_wp2_with fail
  refine (c_pick g _ 2 _ hR6 (by omega) (by omega)).mono ?_
  rintro e w7 ⟨v2, rfl, hu0, hu1, hR7, hg7⟩
  have B7 := Lib.hid (below_only (below_only B5.out hg6 B5.out.size hg) hg7 (Nat.le_trans B5.out.size hg6.size) hg)
  clear hg6 hg7 B5 hR5 hR6
  rcases (show v2 = 0 ∨ v2 = 1 by omega) with rfl | rfl
  all_goals
    go_wp2_with fail
    refine (c_pick g _ 16 _ hR7 (by omega) (by omega)).mono ?_
    rintro e w8 ⟨v3, rfl, ht0, ht1, hR8, hg8⟩
    have B8 := Lib.hid (below_only B7.out hg8 B7.out.size hg)
    clear hg8 B7 hR7
    by_cases h0 : v3 = 0
    · subst h0
      go_wp2_with fail
      refine (c_pick g _ 40 _ hR8 (by omega) (by omega)).mono ?_
      rintro e w9 ⟨v4, rfl, hy0, hy1, hR9, hg9⟩
      have B9 := Lib.hid (below_only B8.out hg9 B8.out.size hg)
      clear hg9 B8 hR8
      go_wp2_with fail
      refine (c_l91Spoil g _ (t1 ++ t2) _ hR9 (by omega) (by rw [ByteArray.size_append]; omega)).mono ?_
      rintro e w10 ⟨t, rfl, hts, hRt, hgt⟩
      rw [ByteArray.size_append] at hts
      go_wp2
      go_ret2
      exact ⟨t, _, rfl, by omega, by omega, by omega, below_only B9.out hgt B9.out.size hg⟩
    · go_wp2_with fail
      refine (c_l91Spoil g _ (t1 ++ t2) _ hR8 (by omega) (by rw [ByteArray.size_append]; omega)).mono ?_
      rintro e w10 ⟨t, rfl, hts, hRt, hgt⟩
      rw [ByteArray.size_append] at hts
      go_wp2
      go_ret2
      exact ⟨t, _, rfl, by omega, by omega, by omega, below_only B8.out hgt B8.out.size hg⟩
end Go.Proofs.Ytgikbnldbbeinaa
