/-
  Chunks that must be alone: the program's and the reference's functions.
-/
import Derived.Test.YtfkajcljcbdjiaaSPkValid
namespace Go.Proofs.Ytfkajcljcbdjiaa
set_option linter.unusedVariables false
set_option linter.unusedSimpArgs false
open Go.RowKit

def aloneK (k : Int) : Bool := (k == 1) || (k == 2) || (k == 14)
def anyAlone : List (Int × Int × ByteArray) → Bool
  | [] => false
  | x :: r => aloneK x.1 || anyAlone r
theorem anyAlone_step {xs : List (Int × Int × ByteArray)} {j : Nat} (h : j < xs.length) : anyAlone (xs.drop j) = (aloneK (xs.getD j ch0).1 || anyAlone (xs.drop (j + 1))) := by
  rw [drop_get xs j h]; rfl
def pkAloneV (f t g : Int) (xs : List (Int × Int × ByteArray)) : Bool := pkOkV f t g xs && (decide (xs.length = 1) || !anyAlone xs)
theorem pkOkV_len {f t g : Int} {xs : List (Int × Int × ByteArray)} (h : pkOkV f t g xs = true) : 1 ≤ xs.length ∧ xs.length ≤ 4 := by
  unfold pkOkV at h
  rw [Bool.and_eq_true] at h
  obtain ⟨_, _, _, _, _, _, _, h8, h9⟩ := pkHd_yes h.1
  exact ⟨h8, h9⟩
theorem aloneK_yes {k : Int} (h : aloneK k = true) : k = 1 ∨ k = 2 ∨ k = 14 := by
  unfold aloneK at h; simp at h; omega
theorem aloneK_no {k : Int} (h : aloneK k = false) : (k == 1) = false ∧ (k == 2) = false ∧ (k == 14) = false := by
  unfold aloneK at h
  simp at h ⊢
  omega
theorem c_l13Alone (k : Int) (w : World) : Calls Try.prog 41 #[.int .i64 k] w fun e w' => e = .returned (.bool (aloneK k)) ∧ w = w' := by
  go_enter Try.func41, Try.ntmps41
  go_wp2
  all_goals (go_ret; exact ⟨ret_bool (by unfold aloneK; simp [*]), rfl⟩)
set_option maxHeartbeats 4000000 in
theorem c_PacketAlone (f t g : Int) (A : Option Addr) (n c : Nat) (xs : List (Int × Int × ByteArray)) (B : Nat) (w : World) (hG : Gaps w B A n xs) (hBw : B ≤ w.heap.size) (hn : n ≤ maxLen) (hsz : ∀ i, i < n → (xs.getD i ch0).2.2.size ≤ maxLen) :
    Calls Try.prog 26 #[.agg #[.int .i64 f, .int .i64 t, .int .i64 g, .slice A n c]] w fun e w' => e = .returned (.bool (pkAloneV f t g xs)) ∧ Below w.heap.size w w' := by
  have HL := Lib.hid hG.1
  have cp := fun W h1 h2 => c_PacketValid f t g A n c xs B W h1 h2 hn hsz
  unfold maxLen at hn
  have B0 := Lib.hid (Below.refl w.heap.size w)
  cases hok : pkOkV f t g xs with
  | false =>
    have hv : pkAloneV f t g xs = false := by unfold pkAloneV; rw [hok]; rfl
    rw [hv]
    rw [hok] at cp
    have CP := Lib.hid cp
    clear cp hsz hok hv
    go_enter Try.func26, Try.ntmps26
    go_wp2_with fail
    refine (CP.out _ (by (repeat' (first | (with_reducible exact hG) | with_reducible refine Gaps.alloc ?_ ?_ _ | with_reducible refine Gaps.setCell ?_ ?_ _ | with_reducible refine Gaps.drew ?_ | with_reducible refine Gaps.drewN ?_ _ | omega | (simp; done) | (simp; omega)))) (by first | omega | (simp; done) | (simp; omega))).mono ?_
    rintro e w1 ⟨rfl, h1⟩
    have P_1 : Blk w1 (w.heap.size) 25 #[.int .i64 f, .int .i64 t, .int .i64 g, .slice A n c] := Blk.below (by (repeat' (first | (with_reducible refine Blk.drewN ?_ _) | (with_reducible refine Blk.drew ?_) | (with_reducible refine Blk.new1 ?hb; case hb => (first | omega | (simp; done) | (simp; omega))) | (with_reducible refine Blk.alloc ?_ _) | (with_reducible refine' Blk.set2_0 ?_ ?hb; case hb => (first | omega | (simp; done) | (simp; omega))) | (with_reducible refine' Blk.set2_1 ?_ ?hb; case hb => (first | omega | (simp; done) | (simp; omega))) | (with_reducible refine' Blk.set3_0 ?_ ?hb; case hb => (first | omega | (simp; done) | (simp; omega))) | (with_reducible refine' Blk.set3_1 ?_ ?hb; case hb => (first | omega | (simp; done) | (simp; omega))) | (with_reducible refine' Blk.set3_2 ?_ ?hb; case hb => (first | omega | (simp; done) | (simp; omega))) | (with_reducible refine' Blk.set4_0 ?_ ?hb; case hb => (first | omega | (simp; done) | (simp; omega))) | (with_reducible refine' Blk.set4_1 ?_ ?hb; case hb => (first | omega | (simp; done) | (simp; omega))) | (with_reducible refine' Blk.set4_2 ?_ ?hb; case hb => (first | omega | (simp; done) | (simp; omega))) | (with_reducible refine' Blk.set4_3 ?_ ?hb; case hb => (first | omega | (simp; done) | (simp; omega))) | (with_reducible refine' Blk.set7_0 ?_ ?hb; case hb => (first | omega | (simp; done) | (simp; omega))) | (with_reducible refine' Blk.set7_1 ?_ ?hb; case hb => (first | omega | (simp; done) | (simp; omega))) | (with_reducible refine' Blk.set7_2 ?_ ?hb; case hb => (first | omega | (simp; done) | (simp; omega))) | (with_reducible refine' Blk.set7_3 ?_ ?hb; case hb => (first | omega | (simp; done) | (simp; omega))) | (with_reducible refine' Blk.set7_4 ?_ ?hb; case hb => (first | omega | (simp; done) | (simp; omega))) | (with_reducible refine' Blk.set7_5 ?_ ?hb; case hb => (first | omega | (simp; done) | (simp; omega))) | (with_reducible refine' Blk.set7_6 ?_ ?hb; case hb => (first | omega | (simp; done) | (simp; omega))) | (with_reducible refine Blk.far ?_ ?hb _; case hb => (first | omega | (simp; done) | (simp; omega))) | fail))) h1 (by (first | omega | (simp; done) | (simp; omega)))
    have B1 := Lib.hid (below_step (B := w.heap.size) (w0 := w) (by (repeat' (first | with_reducible exact B0.out | with_reducible exact Below.refl _ _ | with_reducible refine below_drew1 ?_ | with_reducible refine below_drewN ?_ _ | with_reducible refine Below.alloc ?_ ?_ _ | with_reducible refine Below.setCell ?_ ?_ _ | omega | (simp; done) | (simp; omega)))) (by have := B0.out.size; (first | omega | (simp; done) | (simp; omega))) h1)
    have z1 : w.heap.size ≤ w1.heap.size := B1.out.size
    clear h1 B0
    obtain ⟨⟨P_0_, P_1_, P_2_, P_3_⟩, P_f0_, P_f1_, P_f2_, P_f3_⟩ := P_1.get4
    have P_l := P_1.lt
    have P_l1_ : w.heap.size < w1.heap.size + 1 := by omega
    have P_l2_ : w.heap.size < w1.heap.size + 2 := by omega
    have P_l3_ : w.heap.size < w1.heap.size + 3 := by omega
    have P_l4_ : w.heap.size < w1.heap.size + 4 := by omega
    go_wp2
    go_ret
    exact ⟨rfl, by (repeat' (first | with_reducible exact B1.out | with_reducible exact Below.refl _ _ | with_reducible refine below_drew1 ?_ | with_reducible refine below_drewN ?_ _ | with_reducible refine Below.alloc ?_ ?_ _ | with_reducible refine Below.setCell ?_ ?_ _ | omega | (simp; done) | (simp; omega)))⟩
  | true =>
    have B0 := Lib.hid (Below.refl w.heap.size w)
    have hlen := pkOkV_len hok
    rw [HL.out] at hlen
    rw [hok] at cp
    have CP := Lib.hid cp
    by_cases h1 : n = 1
    · have hv : pkAloneV f t g xs = true := by unfold pkAloneV; rw [hok, HL.out]; simp [h1]
      rw [hv]
      clear cp hsz hok hv hlen hn
      subst h1
      go_enter Try.func26, Try.ntmps26
      go_wp2_with fail
      refine (CP.out _ (by (repeat' (first | (with_reducible exact hG) | with_reducible refine Gaps.alloc ?_ ?_ _ | with_reducible refine Gaps.setCell ?_ ?_ _ | with_reducible refine Gaps.drew ?_ | with_reducible refine Gaps.drewN ?_ _ | omega | (simp; done) | (simp; omega)))) (by first | omega | (simp; done) | (simp; omega))).mono ?_
      rintro e w1 ⟨rfl, h1⟩
      have P_1 : Blk w1 (w.heap.size) 25 #[.int .i64 f, .int .i64 t, .int .i64 g, .slice A 1 c] := Blk.below (by (repeat' (first | (with_reducible refine Blk.drewN ?_ _) | (with_reducible refine Blk.drew ?_) | (with_reducible refine Blk.new1 ?hb; case hb => (first | omega | (simp; done) | (simp; omega))) | (with_reducible refine Blk.alloc ?_ _) | (with_reducible refine' Blk.set2_0 ?_ ?hb; case hb => (first | omega | (simp; done) | (simp; omega))) | (with_reducible refine' Blk.set2_1 ?_ ?hb; case hb => (first | omega | (simp; done) | (simp; omega))) | (with_reducible refine' Blk.set3_0 ?_ ?hb; case hb => (first | omega | (simp; done) | (simp; omega))) | (with_reducible refine' Blk.set3_1 ?_ ?hb; case hb => (first | omega | (simp; done) | (simp; omega))) | (with_reducible refine' Blk.set3_2 ?_ ?hb; case hb => (first | omega | (simp; done) | (simp; omega))) | (with_reducible refine' Blk.set4_0 ?_ ?hb; case hb => (first | omega | (simp; done) | (simp; omega))) | (with_reducible refine' Blk.set4_1 ?_ ?hb; case hb => (first | omega | (simp; done) | (simp; omega))) | (with_reducible refine' Blk.set4_2 ?_ ?hb; case hb => (first | omega | (simp; done) | (simp; omega))) | (with_reducible refine' Blk.set4_3 ?_ ?hb; case hb => (first | omega | (simp; done) | (simp; omega))) | (with_reducible refine' Blk.set7_0 ?_ ?hb; case hb => (first | omega | (simp; done) | (simp; omega))) | (with_reducible refine' Blk.set7_1 ?_ ?hb; case hb => (first | omega | (simp; done) | (simp; omega))) | (with_reducible refine' Blk.set7_2 ?_ ?hb; case hb => (first | omega | (simp; done) | (simp; omega))) | (with_reducible refine' Blk.set7_3 ?_ ?hb; case hb => (first | omega | (simp; done) | (simp; omega))) | (with_reducible refine' Blk.set7_4 ?_ ?hb; case hb => (first | omega | (simp; done) | (simp; omega))) | (with_reducible refine' Blk.set7_5 ?_ ?hb; case hb => (first | omega | (simp; done) | (simp; omega))) | (with_reducible refine' Blk.set7_6 ?_ ?hb; case hb => (first | omega | (simp; done) | (simp; omega))) | (with_reducible refine Blk.far ?_ ?hb _; case hb => (first | omega | (simp; done) | (simp; omega))) | fail))) h1 (by (first | omega | (simp; done) | (simp; omega)))
      have B1 := Lib.hid (below_step (B := w.heap.size) (w0 := w) (by (repeat' (first | with_reducible exact B0.out | with_reducible exact Below.refl _ _ | with_reducible refine below_drew1 ?_ | with_reducible refine below_drewN ?_ _ | with_reducible refine Below.alloc ?_ ?_ _ | with_reducible refine Below.setCell ?_ ?_ _ | omega | (simp; done) | (simp; omega)))) (by have := B0.out.size; (first | omega | (simp; done) | (simp; omega))) h1)
      have z1 : w.heap.size ≤ w1.heap.size := B1.out.size
      clear h1 B0
      obtain ⟨⟨P_0_, P_1_, P_2_, P_3_⟩, P_f0_, P_f1_, P_f2_, P_f3_⟩ := P_1.get4
      have P_l := P_1.lt
      have P_l1_ : w.heap.size < w1.heap.size + 1 := by omega
      have P_l2_ : w.heap.size < w1.heap.size + 2 := by omega
      have P_l3_ : w.heap.size < w1.heap.size + 3 := by omega
      have P_l4_ : w.heap.size < w1.heap.size + 4 := by omega
      go_wp2
      go_ret
      exact ⟨rfl, by (repeat' (first | with_reducible exact B1.out | with_reducible exact Below.refl _ _ | with_reducible refine below_drew1 ?_ | with_reducible refine below_drewN ?_ _ | with_reducible refine Below.alloc ?_ ?_ _ | with_reducible refine Below.setCell ?_ ?_ _ | omega | (simp; done) | (simp; omega)))⟩
    · have hv : pkAloneV f t g xs = !anyAlone (xs.drop 0) := by unfold pkAloneV; rw [hok, HL.out]; simp [h1]
      rw [hv]
      have h1b : ((n : Int) == 1) = false := by simp; omega
      clear cp hsz hok hv
      have B0 := Lib.hid (Below.refl w.heap.size w)
      go_enter Try.func26, Try.ntmps26
      go_wp2_with fail
      refine (CP.out _ (by (repeat' (first | (with_reducible exact hG) | with_reducible refine Gaps.alloc ?_ ?_ _ | with_reducible refine Gaps.setCell ?_ ?_ _ | with_reducible refine Gaps.drew ?_ | with_reducible refine Gaps.drewN ?_ _ | omega | (simp; done) | (simp; omega)))) (by first | omega | (simp; done) | (simp; omega))).mono ?_
      rintro e w1 ⟨rfl, h1⟩
      have P_1 : Blk w1 (w.heap.size) 25 #[.int .i64 f, .int .i64 t, .int .i64 g, .slice A n c] := Blk.below (by (repeat' (first | (with_reducible refine Blk.drewN ?_ _) | (with_reducible refine Blk.drew ?_) | (with_reducible refine Blk.new1 ?hb; case hb => (first | omega | (simp; done) | (simp; omega))) | (with_reducible refine Blk.alloc ?_ _) | (with_reducible refine' Blk.set2_0 ?_ ?hb; case hb => (first | omega | (simp; done) | (simp; omega))) | (with_reducible refine' Blk.set2_1 ?_ ?hb; case hb => (first | omega | (simp; done) | (simp; omega))) | (with_reducible refine' Blk.set3_0 ?_ ?hb; case hb => (first | omega | (simp; done) | (simp; omega))) | (with_reducible refine' Blk.set3_1 ?_ ?hb; case hb => (first | omega | (simp; done) | (simp; omega))) | (with_reducible refine' Blk.set3_2 ?_ ?hb; case hb => (first | omega | (simp; done) | (simp; omega))) | (with_reducible refine' Blk.set4_0 ?_ ?hb; case hb => (first | omega | (simp; done) | (simp; omega))) | (with_reducible refine' Blk.set4_1 ?_ ?hb; case hb => (first | omega | (simp; done) | (simp; omega))) | (with_reducible refine' Blk.set4_2 ?_ ?hb; case hb => (first | omega | (simp; done) | (simp; omega))) | (with_reducible refine' Blk.set4_3 ?_ ?hb; case hb => (first | omega | (simp; done) | (simp; omega))) | (with_reducible refine' Blk.set7_0 ?_ ?hb; case hb => (first | omega | (simp; done) | (simp; omega))) | (with_reducible refine' Blk.set7_1 ?_ ?hb; case hb => (first | omega | (simp; done) | (simp; omega))) | (with_reducible refine' Blk.set7_2 ?_ ?hb; case hb => (first | omega | (simp; done) | (simp; omega))) | (with_reducible refine' Blk.set7_3 ?_ ?hb; case hb => (first | omega | (simp; done) | (simp; omega))) | (with_reducible refine' Blk.set7_4 ?_ ?hb; case hb => (first | omega | (simp; done) | (simp; omega))) | (with_reducible refine' Blk.set7_5 ?_ ?hb; case hb => (first | omega | (simp; done) | (simp; omega))) | (with_reducible refine' Blk.set7_6 ?_ ?hb; case hb => (first | omega | (simp; done) | (simp; omega))) | (with_reducible refine Blk.far ?_ ?hb _; case hb => (first | omega | (simp; done) | (simp; omega))) | fail))) h1 (by (first | omega | (simp; done) | (simp; omega)))
      have B1 := Lib.hid (below_step (B := w.heap.size) (w0 := w) (by (repeat' (first | with_reducible exact B0.out | with_reducible exact Below.refl _ _ | with_reducible refine below_drew1 ?_ | with_reducible refine below_drewN ?_ _ | with_reducible refine Below.alloc ?_ ?_ _ | with_reducible refine Below.setCell ?_ ?_ _ | omega | (simp; done) | (simp; omega)))) (by have := B0.out.size; (first | omega | (simp; done) | (simp; omega))) h1)
      have z1 : w.heap.size ≤ w1.heap.size := B1.out.size
      clear h1 B0
      obtain ⟨⟨P_0_, P_1_, P_2_, P_3_⟩, P_f0_, P_f1_, P_f2_, P_f3_⟩ := P_1.get4
      have P_l := P_1.lt
      have P_l1_ : w.heap.size < w1.heap.size + 1 := by omega
      have P_l2_ : w.heap.size < w1.heap.size + 2 := by omega
      have P_l3_ : w.heap.size < w1.heap.size + 3 := by omega
      have P_l4_ : w.heap.size < w1.heap.size + 4 := by omega
      have G1 : Gaps w1 B A n xs := Gaps.below hG B1.out hBw
      have HP := Lib.hid P_1
      clear P_1
      go_wp2
      go_loopw [4, 15] (fun _ i wr => ∃ j : Nat, j ≤ n ∧ i = .int .i64 j ∧ anyAlone (xs.drop 0) = anyAlone (xs.drop j) ∧ Below w1.heap.size w1 wr) (fun _ i _ => n - (intOf i).toNat)
      case atStart => exact ⟨0, Nat.zero_le _, rfl, rfl, by (repeat' (first | (with_reducible assumption) | with_reducible exact Below.refl _ _ | with_reducible refine below_drew1 ?_ | with_reducible refine below_drewN ?_ _ | with_reducible refine Below.alloc ?_ ?_ _ | with_reducible refine Below.setCell ?_ ?_ _ | omega | (simp; done) | (simp; omega)))⟩
      case round =>
        obtain ⟨j, hj, rfl, hok, hB⟩ := hrel
        have B2 := Lib.hid (B1.out.trans (hB.mono B1.out.size))
        have BR := Lib.hid hB
        have zr := BR.out.size
        have zr2 := B2.out.size
        have OK := Lib.hid hok
        clear hB hok P_0_ P_1_ P_2_ P_3_ P_f0_ P_f1_ P_f2_ P_f3_
        by_cases hlt : j < n
        · obtain ⟨b, o, rfl, hb, hc⟩ := G1.2 (by omega)
          obtain ⟨c0, c1, c2⟩ := hc j hlt
          have hb2 : b < w1.heap.size := by omega
          have d0 := (BR.out.cell (p := ⟨b, o + j * 3, none⟩) hb2).trans c0
          have d1 := (BR.out.cell (p := ⟨b, o + j * 3 + 1, none⟩) hb2).trans c1
          have d2 := (BR.out.cell (p := ⟨b, o + j * 3 + 2, none⟩) hb2).trans c2
          have hst := Lib.hid (anyAlone_step (xs := xs) (j := j) (by rw [HL.out]; exact hlt))
          generalize hgx : xs.getD j ch0 = y at *
          obtain ⟨a, e, s⟩ := y
          clear hgx hc c0 c1 c2
          simp only at d0 d1 d2
          have hjn : (j : Int) < (n : Int) := by omega
          have hj0 : (0 : Int) ≤ (j : Int) := by omega
          cases ha : aloneK a with
          | true =>
            have hr := Lib.hid (show (!anyAlone (xs.drop 0)) = false by rw [OK.out, hst.out]; simp [ha])
            rcases aloneK_yes ha with rfl | rfl | rfl
            all_goals
              go_wp2
              go_ret
              exact ⟨ret_bool hr.out.symm, by (repeat' (first | with_reducible exact B2.out | with_reducible exact Below.refl _ _ | with_reducible refine below_drew1 ?_ | with_reducible refine below_drewN ?_ _ | with_reducible refine Below.alloc ?_ ?_ _ | with_reducible refine Below.setCell ?_ ?_ _ | omega | (simp; done) | (simp; omega)))⟩
          | false =>
            have hr := Lib.hid (show anyAlone (xs.drop 0) = anyAlone (xs.drop (j + 1)) by rw [OK.out, hst.out]; simp [ha])
            obtain ⟨a1, a2, a3⟩ := aloneK_no ha
            go_wp2
            go_roundw
            case rel => exact ⟨j + 1, by omega, by go_num, hr.out, by (repeat' (first | with_reducible exact BR.out | with_reducible exact Below.refl _ _ | with_reducible refine below_drew1 ?_ | with_reducible refine below_drewN ?_ _ | with_reducible refine Below.alloc ?_ ?_ _ | with_reducible refine Below.setCell ?_ ?_ _ | omega | (simp; done) | (simp; omega)))⟩
            case measure => simp [intOf]; omega
        · have hje : j = n := by omega
          subst hje
          have hr := Lib.hid (show (!anyAlone (xs.drop 0)) = true by rw [OK.out, List.drop_eq_nil_of_le (Nat.le_of_eq HL.out)]; rfl)
          go_wp2
          go_ret
          exact ⟨ret_bool hr.out.symm, by (repeat' (first | with_reducible exact B2.out | with_reducible exact Below.refl _ _ | with_reducible refine below_drew1 ?_ | with_reducible refine below_drewN ?_ _ | with_reducible refine Below.alloc ?_ ?_ _ | with_reducible refine Below.setCell ?_ ?_ _ | omega | (simp; done) | (simp; omega)))⟩
set_option maxHeartbeats 4000000 in
theorem c_sPacketAlone (f t g : Int) (A : Option Addr) (n c : Nat) (xs : List (Int × Int × ByteArray)) (B : Nat) (w : World) (hG : Gaps w B A n xs) (hBw : B ≤ w.heap.size) (hn : n ≤ maxLen) (hsz : ∀ i, i < n → (xs.getD i ch0).2.2.size ≤ maxLen) :
    Calls Try.prog 25 #[.agg #[.int .i64 f, .int .i64 t, .int .i64 g, .slice A n c]] w fun e w' => e = .returned (.bool (pkAloneV f t g xs)) ∧ Below w.heap.size w w' := by
  have HL := Lib.hid hG.1
  have CP := Lib.hid (fun W h1 h2 => c_sPacketValid f t g A n c xs B W h1 h2 hn hsz)
  unfold maxLen at hn
  have B0 := Lib.hid (Below.refl w.heap.size w)
  clear hsz
  go_enter Try.func25, Try.ntmps25
  go_wp2
  go_loopw [3] (fun i wr => ∃ j : Nat, j ≤ n ∧ i = .int .i64 j ∧ (1 < n → anyAlone xs = anyAlone (xs.drop j)) ∧ Blk wr w.heap.size 25 #[.int .i64 f, .int .i64 t, .int .i64 g, .slice A n c] ∧ Below w.heap.size w wr) (fun i _ => n - (intOf i).toNat)
  case atStart => exact ⟨0, Nat.zero_le _, rfl, fun _ => rfl, Blk.new _ _ _, by (repeat' (first | with_reducible exact B0.out | with_reducible exact Below.refl _ _ | with_reducible refine below_drew1 ?_ | with_reducible refine below_drewN ?_ _ | with_reducible refine Below.alloc ?_ ?_ _ | with_reducible refine Below.setCell ?_ ?_ _ | omega | (simp; done) | (simp; omega)))⟩
  case round =>
    obtain ⟨j, hj, rfl, hok, hP, hB⟩ := hrel
    have B1 := Lib.hid hB
    have OK := Lib.hid hok
    have HP := Lib.hid hP
    have hz := hP.lt
    obtain ⟨⟨p0, p1, p2, p3⟩, q0, q1, q2, q3⟩ := hP.get4
    clear hB hok hP
    by_cases hlt : j < n
    · obtain ⟨b, o, rfl, hb, hc⟩ := hG.2 (by omega)
      obtain ⟨c0, c1, c2⟩ := hc j hlt
      have hb := Nat.lt_of_lt_of_le hb hBw
      have d0 := (B1.out.cell (p := ⟨b, o + j * 3, none⟩) hb).trans c0
      have hst := Lib.hid (anyAlone_step (xs := xs) (j := j) (by rw [HL.out]; exact hlt))
      generalize hgx : xs.getD j ch0 = y at *
      obtain ⟨a, e, s⟩ := y
      clear hgx hc c0 c1 c2 hBw
      simp only at d0
      have hjn : (j : Int) < (n : Int) := by omega
      have hj0 : (0 : Int) ≤ (j : Int) := by omega
      have cv := fun W => c_l13Alone a W
      by_cases h1 : 1 < n
      · have h1i : (1 : Int) < (n : Int) := by omega
        cases ha : aloneK a with
        | true =>
          rw [ha] at cv
          have CV := Lib.hid cv
          clear cv
          have hr := Lib.hid (show pkAloneV f t g xs = false by unfold pkAloneV; rw [OK.out h1, hst.out, HL.out]; simp [ha]; intro _; omega)
          go_wp2_with fail
          refine (CV.out _).mono ?_
          rintro e w2 ⟨rfl, rfl⟩
          go_wp2
          go_ret
          exact ⟨ret_bool hr.out.symm, by (repeat' (first | with_reducible exact B1.out | with_reducible exact Below.refl _ _ | with_reducible refine below_drew1 ?_ | with_reducible refine below_drewN ?_ _ | with_reducible refine Below.alloc ?_ ?_ _ | with_reducible refine Below.setCell ?_ ?_ _ | omega | (simp; done) | (simp; omega)))⟩
        | false =>
          rw [ha] at cv
          have CV := Lib.hid cv
          clear cv
          have hr := Lib.hid (show anyAlone xs = anyAlone (xs.drop (j + 1)) by rw [OK.out h1, hst.out]; simp [ha])
          go_wp2_with fail
          refine (CV.out _).mono ?_
          rintro e w2 ⟨rfl, rfl⟩
          go_wp2
          go_roundw
          case rel => exact ⟨j + 1, by omega, by go_num, fun _ => hr.out, by (repeat' (first | (with_reducible exact HP.out) | (with_reducible refine Blk.drewN ?_ _) | (with_reducible refine Blk.drew ?_) | (with_reducible refine Blk.new1 ?hb; case hb => (first | omega | (simp; done) | (simp; omega))) | (with_reducible refine Blk.alloc ?_ _) | (with_reducible refine' Blk.set2_0 ?_ ?hb; case hb => (first | omega | (simp; done) | (simp; omega))) | (with_reducible refine' Blk.set2_1 ?_ ?hb; case hb => (first | omega | (simp; done) | (simp; omega))) | (with_reducible refine' Blk.set3_0 ?_ ?hb; case hb => (first | omega | (simp; done) | (simp; omega))) | (with_reducible refine' Blk.set3_1 ?_ ?hb; case hb => (first | omega | (simp; done) | (simp; omega))) | (with_reducible refine' Blk.set3_2 ?_ ?hb; case hb => (first | omega | (simp; done) | (simp; omega))) | (with_reducible refine' Blk.set4_0 ?_ ?hb; case hb => (first | omega | (simp; done) | (simp; omega))) | (with_reducible refine' Blk.set4_1 ?_ ?hb; case hb => (first | omega | (simp; done) | (simp; omega))) | (with_reducible refine' Blk.set4_2 ?_ ?hb; case hb => (first | omega | (simp; done) | (simp; omega))) | (with_reducible refine' Blk.set4_3 ?_ ?hb; case hb => (first | omega | (simp; done) | (simp; omega))) | (with_reducible refine' Blk.set7_0 ?_ ?hb; case hb => (first | omega | (simp; done) | (simp; omega))) | (with_reducible refine' Blk.set7_1 ?_ ?hb; case hb => (first | omega | (simp; done) | (simp; omega))) | (with_reducible refine' Blk.set7_2 ?_ ?hb; case hb => (first | omega | (simp; done) | (simp; omega))) | (with_reducible refine' Blk.set7_3 ?_ ?hb; case hb => (first | omega | (simp; done) | (simp; omega))) | (with_reducible refine' Blk.set7_4 ?_ ?hb; case hb => (first | omega | (simp; done) | (simp; omega))) | (with_reducible refine' Blk.set7_5 ?_ ?hb; case hb => (first | omega | (simp; done) | (simp; omega))) | (with_reducible refine' Blk.set7_6 ?_ ?hb; case hb => (first | omega | (simp; done) | (simp; omega))) | (with_reducible refine Blk.far ?_ ?hb _; case hb => (first | omega | (simp; done) | (simp; omega))) | fail)), by (repeat' (first | with_reducible exact B1.out | with_reducible exact Below.refl _ _ | with_reducible refine below_drew1 ?_ | with_reducible refine below_drewN ?_ _ | with_reducible refine Below.alloc ?_ ?_ _ | with_reducible refine Below.setCell ?_ ?_ _ | omega | (simp; done) | (simp; omega)))⟩
          case measure => simp [intOf]; omega
      · have h1i : ¬ (1 : Int) < (n : Int) := by omega
        have CV := Lib.hid cv
        clear cv
        generalize aloneK a = ab at *
        cases ab
        all_goals
          go_wp2_with fail
          refine (CV.out _).mono ?_
          rintro e w2 ⟨rfl, rfl⟩
          go_wp2
          go_roundw
          case rel => exact ⟨j + 1, by omega, by go_num, fun h => absurd h h1, by (repeat' (first | (with_reducible exact HP.out) | (with_reducible refine Blk.drewN ?_ _) | (with_reducible refine Blk.drew ?_) | (with_reducible refine Blk.new1 ?hb; case hb => (first | omega | (simp; done) | (simp; omega))) | (with_reducible refine Blk.alloc ?_ _) | (with_reducible refine' Blk.set2_0 ?_ ?hb; case hb => (first | omega | (simp; done) | (simp; omega))) | (with_reducible refine' Blk.set2_1 ?_ ?hb; case hb => (first | omega | (simp; done) | (simp; omega))) | (with_reducible refine' Blk.set3_0 ?_ ?hb; case hb => (first | omega | (simp; done) | (simp; omega))) | (with_reducible refine' Blk.set3_1 ?_ ?hb; case hb => (first | omega | (simp; done) | (simp; omega))) | (with_reducible refine' Blk.set3_2 ?_ ?hb; case hb => (first | omega | (simp; done) | (simp; omega))) | (with_reducible refine' Blk.set4_0 ?_ ?hb; case hb => (first | omega | (simp; done) | (simp; omega))) | (with_reducible refine' Blk.set4_1 ?_ ?hb; case hb => (first | omega | (simp; done) | (simp; omega))) | (with_reducible refine' Blk.set4_2 ?_ ?hb; case hb => (first | omega | (simp; done) | (simp; omega))) | (with_reducible refine' Blk.set4_3 ?_ ?hb; case hb => (first | omega | (simp; done) | (simp; omega))) | (with_reducible refine' Blk.set7_0 ?_ ?hb; case hb => (first | omega | (simp; done) | (simp; omega))) | (with_reducible refine' Blk.set7_1 ?_ ?hb; case hb => (first | omega | (simp; done) | (simp; omega))) | (with_reducible refine' Blk.set7_2 ?_ ?hb; case hb => (first | omega | (simp; done) | (simp; omega))) | (with_reducible refine' Blk.set7_3 ?_ ?hb; case hb => (first | omega | (simp; done) | (simp; omega))) | (with_reducible refine' Blk.set7_4 ?_ ?hb; case hb => (first | omega | (simp; done) | (simp; omega))) | (with_reducible refine' Blk.set7_5 ?_ ?hb; case hb => (first | omega | (simp; done) | (simp; omega))) | (with_reducible refine' Blk.set7_6 ?_ ?hb; case hb => (first | omega | (simp; done) | (simp; omega))) | (with_reducible refine Blk.far ?_ ?hb _; case hb => (first | omega | (simp; done) | (simp; omega))) | fail)), by (repeat' (first | with_reducible exact B1.out | with_reducible exact Below.refl _ _ | with_reducible refine below_drew1 ?_ | with_reducible refine below_drewN ?_ _ | with_reducible refine Below.alloc ?_ ?_ _ | with_reducible refine Below.setCell ?_ ?_ _ | omega | (simp; done) | (simp; omega)))⟩
          case measure => simp [intOf]; omega
    · have hje : j = n := by omega
      subst hje
      have hr := Lib.hid (show pkOkV f t g xs = pkAloneV f t g xs by
        unfold pkAloneV
        cases hok : pkOkV f t g xs with
        | false => rfl
        | true =>
          have hl := pkOkV_len hok
          rw [HL.out] at hl ⊢
          by_cases h1 : 1 < j
          · rw [OK.out h1, List.drop_eq_nil_of_le (Nat.le_of_eq HL.out)]; simp [anyAlone]
          · have : j = 1 := by omega
            simp [this])
      have G1 : Gaps wr B A j xs := Gaps.below hG B1.out hBw
      have hzz := B1.out.size
      go_wp2_with fail
      refine (CP.out _ (by (repeat' (first | (with_reducible exact G1) | with_reducible refine Gaps.alloc ?_ ?_ _ | with_reducible refine Gaps.setCell ?_ ?_ _ | with_reducible refine Gaps.drew ?_ | with_reducible refine Gaps.drewN ?_ _ | omega | (simp; done) | (simp; omega)))) (by omega)).mono ?_
      rintro e w2 ⟨rfl, h2⟩
      rw [hr.out]
      go_wp2
      go_ret
      exact ⟨rfl, below_step (B := w.heap.size) (w0 := w) (by (repeat' (first | with_reducible exact B1.out | with_reducible exact Below.refl _ _ | with_reducible refine below_drew1 ?_ | with_reducible refine below_drewN ?_ _ | with_reducible refine Below.alloc ?_ ?_ _ | with_reducible refine Below.setCell ?_ ?_ _ | omega | (simp; done) | (simp; omega)))) (by (first | omega | (simp; done) | (simp; omega))) h2⟩
end Go.Proofs.Ytfkajcljcbdjiaa
