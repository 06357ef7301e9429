/-
  When a packet is valid: the reference's function.
-/
import Derived.Test.YtfkajcljcbdjiaaChs
namespace Go.Proofs.Ytfkajcljcbdjiaa
set_option linter.unusedVariables false
set_option linter.unusedSimpArgs false
open Go.RowKit

theorem pkHd_eq (f t g : Int) (n : Nat) : pkHd f t g n = (inB f 1 65535 && inB t 1 65535 && (f != t) && inB g 0 4294967295 && inB (n : Int) 1 4) := by
  unfold pkHd inB
  rw [Bool.eq_iff_iff]
  simp
  omega
set_option maxHeartbeats 4000000 in
theorem c_sPacketValid (f t g : Int) (A : Option Addr) (n c : Nat) (xs : List (Int × Int × ByteArray)) (B : Nat) (w : World) (hG : Gaps w B A n xs) (hBw : B ≤ w.heap.size) (hn : n ≤ maxLen) (hsz : ∀ i, i < n → (xs.getD i ch0).2.2.size ≤ maxLen) :
    Calls Try.prog 20 #[.agg #[.int .i64 f, .int .i64 t, .int .i64 g, .slice A n c]] w fun e w' => e = .returned (.bool (pkOkV f t g xs)) ∧ Below w.heap.size w w' := by
  unfold maxLen at hn
  have B0 := Lib.hid (Below.refl w.heap.size w)
  have HL := Lib.hid hG.1
  have HS := Lib.hid hsz
  clear hsz
  go_enter Try.func20, Try.ntmps20
  go_wp2
  go_loopw [3] (fun i wr => ∃ j : Nat, j ≤ n ∧ i = .int .i64 j ∧ chsOk xs = chsOk (xs.drop j) ∧ Blk wr w.heap.size 25 #[.int .i64 f, .int .i64 t, .int .i64 g, .slice A n c] ∧ Below w.heap.size w wr) (fun i _ => n - (intOf i).toNat)
  case atStart => exact ⟨0, Nat.zero_le _, rfl, rfl, Blk.new _ _ _, by (repeat' (first | with_reducible exact B0.out | with_reducible exact Below.refl _ _ | with_reducible refine below_drew1 ?_ | with_reducible refine below_drewN ?_ _ | with_reducible refine Below.alloc ?_ ?_ _ | with_reducible refine Below.setCell ?_ ?_ _ | omega | (simp; done) | (simp; omega)))⟩
  case round =>
    obtain ⟨j, hj, rfl, hok, hP, hB⟩ := hrel
    have B1 := Lib.hid hB
    have OK := Lib.hid hok
    have HP := Lib.hid hP
    have hz := hP.lt
    obtain ⟨⟨p0, p1, p2, p3⟩, q0, q1, q2, q3⟩ := hP.get4
    clear hB hok hP
    by_cases hlt : j < n
    · obtain ⟨b, o, rfl, hb, hc⟩ := hG.2 (by omega)
      obtain ⟨c0, c1, c2⟩ := hc j hlt
      have hs := HS.out j hlt
      have hb := Nat.lt_of_lt_of_le hb hBw
      have d0 := (B1.out.cell (p := ⟨b, o + j * 3, none⟩) hb).trans c0
      have d1 := (B1.out.cell (p := ⟨b, o + j * 3 + 1, none⟩) hb).trans c1
      have d2 := (B1.out.cell (p := ⟨b, o + j * 3 + 2, none⟩) hb).trans c2
      have hst := Lib.hid (chsOk_step (xs := xs) (j := j) (by rw [HL.out]; exact hlt))
      generalize hgx : xs.getD j ch0 = y at *
      obtain ⟨a, e, s⟩ := y
      clear hgx hc c0 c1 c2 hG hBw
      simp only at d0 d1 d2 hs
      have hjn : (j : Int) < (n : Int) := by omega
      have hj0 : (0 : Int) ≤ (j : Int) := by omega
      have cv := fun W => c_sChunkValid a e s W hs
      cases hck : chunkOk a e s with
      | false =>
        have hr := Lib.hid (show pkOkV f t g xs = false by unfold pkOkV; rw [OK.out, hst.out]; unfold chOk; simp [hck])
        rw [hck] at cv
        have CV := Lib.hid cv
        clear cv hs
        go_wp2_with fail
        refine (CV.out _).mono ?_
        rintro e w2 ⟨rfl, h2⟩
        go_wp2
        go_ret
        exact ⟨ret_bool hr.out.symm, below_step (B := w.heap.size) (w0 := w) (by (repeat' (first | with_reducible exact B1.out | with_reducible exact Below.refl _ _ | with_reducible refine below_drew1 ?_ | with_reducible refine below_drewN ?_ _ | with_reducible refine Below.alloc ?_ ?_ _ | with_reducible refine Below.setCell ?_ ?_ _ | omega | (simp; done) | (simp; omega)))) (by have := B1.out.size; (first | omega | (simp; done) | (simp; omega))) h2⟩
      | true =>
        have hr := Lib.hid (show chsOk xs = chsOk (xs.drop (j + 1)) by rw [OK.out, hst.out]; unfold chOk; simp [hck])
        rw [hck] at cv
        have CV := Lib.hid cv
        clear cv hs
        go_wp2_with fail
        refine (CV.out _).mono ?_
        rintro e w2 ⟨rfl, h2⟩
        have HP2 : Blk w2 w.heap.size 25 #[.int .i64 f, .int .i64 t, .int .i64 g, .slice (some ⟨b, o, none⟩) n c] := Blk.below (by (repeat' (first | (with_reducible exact HP.out) | (with_reducible refine Blk.drewN ?_ _) | (with_reducible refine Blk.drew ?_) | (with_reducible refine Blk.new1 ?hb; case hb => (first | omega | (simp; done) | (simp; omega))) | (with_reducible refine Blk.alloc ?_ _) | (with_reducible refine' Blk.set2_0 ?_ ?hb; case hb => (first | omega | (simp; done) | (simp; omega))) | (with_reducible refine' Blk.set2_1 ?_ ?hb; case hb => (first | omega | (simp; done) | (simp; omega))) | (with_reducible refine' Blk.set3_0 ?_ ?hb; case hb => (first | omega | (simp; done) | (simp; omega))) | (with_reducible refine' Blk.set3_1 ?_ ?hb; case hb => (first | omega | (simp; done) | (simp; omega))) | (with_reducible refine' Blk.set3_2 ?_ ?hb; case hb => (first | omega | (simp; done) | (simp; omega))) | (with_reducible refine' Blk.set4_0 ?_ ?hb; case hb => (first | omega | (simp; done) | (simp; omega))) | (with_reducible refine' Blk.set4_1 ?_ ?hb; case hb => (first | omega | (simp; done) | (simp; omega))) | (with_reducible refine' Blk.set4_2 ?_ ?hb; case hb => (first | omega | (simp; done) | (simp; omega))) | (with_reducible refine' Blk.set4_3 ?_ ?hb; case hb => (first | omega | (simp; done) | (simp; omega))) | (with_reducible refine' Blk.set7_0 ?_ ?hb; case hb => (first | omega | (simp; done) | (simp; omega))) | (with_reducible refine' Blk.set7_1 ?_ ?hb; case hb => (first | omega | (simp; done) | (simp; omega))) | (with_reducible refine' Blk.set7_2 ?_ ?hb; case hb => (first | omega | (simp; done) | (simp; omega))) | (with_reducible refine' Blk.set7_3 ?_ ?hb; case hb => (first | omega | (simp; done) | (simp; omega))) | (with_reducible refine' Blk.set7_4 ?_ ?hb; case hb => (first | omega | (simp; done) | (simp; omega))) | (with_reducible refine' Blk.set7_5 ?_ ?hb; case hb => (first | omega | (simp; done) | (simp; omega))) | (with_reducible refine' Blk.set7_6 ?_ ?hb; case hb => (first | omega | (simp; done) | (simp; omega))) | (with_reducible refine Blk.far ?_ ?hb _; case hb => (first | omega | (simp; done) | (simp; omega))) | fail))) h2 (by first | omega | (simp; done) | (simp; omega))
        have B2 := Lib.hid (below_step (B := w.heap.size) (w0 := w) (by (repeat' (first | with_reducible exact B1.out | with_reducible exact Below.refl _ _ | with_reducible refine below_drew1 ?_ | with_reducible refine below_drewN ?_ _ | with_reducible refine Below.alloc ?_ ?_ _ | with_reducible refine Below.setCell ?_ ?_ _ | omega | (simp; done) | (simp; omega)))) (by have := B1.out.size; (first | omega | (simp; done) | (simp; omega))) h2)
        clear h2
        go_wp2
        go_roundw
        case rel => exact ⟨j + 1, by omega, by go_num, hr.out, HP2, B2.out⟩
        case measure => simp [intOf]; omega
    · have hje : j = n := by omega
      subst hje
      have hr := Lib.hid (show pkOkV f t g xs = (inB f 1 65535 && inB t 1 65535 && (f != t) && inB g 0 4294967295 && inB (j : Int) 1 4) by unfold pkOkV; rw [OK.out, List.drop_eq_nil_of_le (Nat.le_of_eq HL.out), HL.out, pkHd_eq]; simp [chsOk])
      go_wp2_with (go_at_call 37; refine (c_l6In _ _ _ _).mono ?_; rintro e w' ⟨rfl, rfl⟩)
      all_goals go_ret
      all_goals exact ⟨ret_bool (by rw [hr.out]; simp [*]; try omega), B1.out⟩
end Go.Proofs.Ytfkajcljcbdjiaa
