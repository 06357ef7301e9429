/-
  Writing a packet: the reference's function.
-/
import Derived.Test.YtfkajcljcbdjiaaPkPut
import Derived.Deep.RegionHeld3
import Derived.Deep.QuietTactic
import Derived.BigQuiet
namespace Go.Proofs.Ytfkajcljcbdjiaa
set_option linter.unusedVariables false
set_option linter.unusedSimpArgs false
open Go.RowKit

theorem c_l13Sum (s : ByteArray) (w : World) (h : 12 ≤ s.size) (hs : s.size ≤ 1000) : Calls Try.prog 50 #[.string s] w fun e w' => e = .returned (.int .i64 (sumV (s.extract 0 8 ++ zeros 4 ++ s.extract 12 s.size))) ∧ ∃ k, w.drewN k = w' := by
  have h8 : (8 : Int) ≤ (s.size : Int) := by omega
  have h12 : (12 : Int) ≤ (s.size : Int) := by omega
  have e8 : (s.extract 0 8).size = 8 := by rw [ByteArray.size_extract]; omega
  have e12 : (s.extract 12 s.size).size = s.size - 12 := by rw [ByteArray.size_extract]; omega
  have hz : (s.extract 0 8 ++ zeros 4 ++ s.extract 12 s.size).size ≤ 4000000 := by rw [ByteArray.size_append, ByteArray.size_append, e8, e12, zeros_size]; omega
  have HZ := Lib.hid hz
  have n1 : ¬ 9223372036854775807 < (s.extract 0 8).size + 4 := by omega
  have n2 : ¬ 9223372036854775807 < (s.extract 0 8).size + 4 + (s.extract 12 s.size).size := by omega
  clear hz
  go_enter Try.func50, Try.ntmps50
  go_wp2_with fail
  go_quiet ((go_at_call 57; exact Calls.quiet_of_same ((c_l2Next (s.extract 0 8 ++ zeros 4 ++ s.extract 12 s.size) _ HZ.out).mono fun _ _ h => ⟨h.1, h.2.symm⟩)))
  go_wp2
  go_ret
  exact ⟨rfl, _, rfl⟩
theorem pkZ_sum (f t g : Int) (xs : List (Int × Int × ByteArray)) : (pkZ f t g xs).extract 0 8 ++ zeros 4 ++ (pkZ f t g xs).extract 12 (pkZ f t g xs).size = pkZ f t g xs := by
  rw [(pkZ_cut f t g xs).1, (pkZ_cut f t g xs).2]; rfl
set_option maxHeartbeats 8000000 in
theorem c_l13Put (f t g : Int) (A : Option Addr) (n c : Nat) (xs : List (Int × Int × ByteArray)) (B : Nat) (w : World) (hG : Gaps w B A n xs) (hBw : B ≤ w.heap.size) (hok : pkOkV f t g xs = true) :
    Calls Try.prog 33 #[.agg #[.int .i64 f, .int .i64 t, .int .i64 g, .slice A n c]] w fun e w' => e = .returned (.string (pkPutV f t g xs)) ∧ Below w.heap.size w w' := by
  have HL := Lib.hid hG.1
  obtain ⟨hf0, hf1, ht0, ht1, -, hg0, hg1, hn1, hn4⟩ := pkHd_yes (pkOkV_hd hok).1
  have HOK := Lib.hid (chsOk_get (pkOkV_hd hok).2)
  have HPV := Lib.hid (pkPutV_ok hok)
  rw [HL.out] at hn1 hn4
  clear hok
  have hf00 : 0 ≤ f := by omega
  have ht00 : 0 ≤ t := by omega
  have s2f := w2_size f
  have s2t := w2_size t
  have s4g := w4_size' g
  have EH : w2 f ++ w2 t ++ w4 g ++ ⟨#[0, 0, 0, 0]⟩ = pkHead f t g ++ zeros 4 := rfl
  have hS0 : Below (w.heap.size + 1) (w.alloc (.cells #[.int .i64 f, .int .i64 t, .int .i64 g, .slice A n c] 25)) (w.alloc (.cells #[.int .i64 f, .int .i64 t, .int .i64 g, .slice A n c] 25)) := Below.refl _ _
  have hPk := fun (W : World) (hW : Below (w.heap.size + 1) (w.alloc (.cells #[.int .i64 f, .int .i64 t, .int .i64 g, .slice A n c] 25)) W) => show Blk W w.heap.size 25 #[.int .i64 f, .int .i64 t, .int .i64 g, .slice A n c] from Blk.below (Blk.new w 25 #[.int .i64 f, .int .i64 t, .int .i64 g, .slice A n c]) hW (Nat.lt_succ_self _)
  have u0 := fun (W : World) (hW : Below (w.heap.size + 1) (w.alloc (.cells #[.int .i64 f, .int .i64 t, .int .i64 g, .slice A n c] 25)) W) => show W.cell? ⟨w.heap.size, 0, none⟩ = some (.int .i64 f) from (hPk W hW).cell 0
  have u1 := fun (W : World) (hW : Below (w.heap.size + 1) (w.alloc (.cells #[.int .i64 f, .int .i64 t, .int .i64 g, .slice A n c] 25)) W) => show W.cell? ⟨w.heap.size, 1, none⟩ = some (.int .i64 t) from (hPk W hW).cell 1
  have u2 := fun (W : World) (hW : Below (w.heap.size + 1) (w.alloc (.cells #[.int .i64 f, .int .i64 t, .int .i64 g, .slice A n c] 25)) W) => show W.cell? ⟨w.heap.size, 2, none⟩ = some (.int .i64 g) from (hPk W hW).cell 2
  have u3 := fun (W : World) (hW : Below (w.heap.size + 1) (w.alloc (.cells #[.int .i64 f, .int .i64 t, .int .i64 g, .slice A n c] 25)) W) => show W.cell? ⟨w.heap.size, 3, none⟩ = some (.slice A n c) from (hPk W hW).cell 3
  have hlw := fun (W : World) (hW : Below (w.heap.size + 1) (w.alloc (.cells #[.int .i64 f, .int .i64 t, .int .i64 g, .slice A n c] 25)) W) => show w.heap.size < W.heap.size from (hPk W hW).lt
  have U3 := Lib.hid u3
  have HLW := Lib.hid hlw
  have SW := Lib.hid (show ∀ W, Below (w.heap.size + 1) (w.alloc (.cells #[.int .i64 f, .int .i64 t, .int .i64 g, .slice A n c] 25)) W → Below w.heap.size w W from fun W hW => ((Below.refl w.heap.size w).alloc (Nat.le_refl _) _).trans (hW.mono (Nat.le_succ _)))
  clear hPk u3 hlw
  go_enter Try.func33, Try.ntmps33
  go_wp2_with fail
  go_region_held3 (fun W => Below (w.heap.size + 1) (w.alloc (.cells #[.int .i64 f, .int .i64 t, .int .i64 g, .slice A n c] 25)) W)
    ((repeat' (first | (with_reducible assumption) | with_reducible exact Below.refl _ _ | with_reducible refine below_drew1 ?_ | with_reducible refine below_drewN ?_ _ | with_reducible refine Below.alloc ?_ ?_ _ | with_reducible refine Below.setCell ?_ ?_ _ | omega | (simp; done) | (simp; omega))))
    (first | (go_at_call 47; (with_reducible refine (c_l1Word f _ hf00 hf1).mono ?_); rintro e w5 ⟨rfl, h5⟩; have H5 : Below (w.heap.size + 1) (w.alloc (.cells #[.int .i64 f, .int .i64 t, .int .i64 g, .slice A n c] 25)) w5 := below_step (by (repeat' (first | (with_reducible assumption) | with_reducible exact Below.refl _ _ | with_reducible refine below_drew1 ?_ | with_reducible refine below_drewN ?_ _ | with_reducible refine Below.alloc ?_ ?_ _ | with_reducible refine Below.setCell ?_ ?_ _ | omega | (simp; done) | (simp; omega)))) (by first | omega | (simp; done) | (simp; omega)) h5; clear h5) | (go_at_call 47; (with_reducible refine (c_l1Word t _ ht00 ht1).mono ?_); rintro e w6 ⟨rfl, h6⟩; have H6 : Below (w.heap.size + 1) (w.alloc (.cells #[.int .i64 f, .int .i64 t, .int .i64 g, .slice A n c] 25)) w6 := below_step (by (repeat' (first | (with_reducible assumption) | with_reducible exact Below.refl _ _ | with_reducible refine below_drew1 ?_ | with_reducible refine below_drewN ?_ _ | with_reducible refine Below.alloc ?_ ?_ _ | with_reducible refine Below.setCell ?_ ?_ _ | omega | (simp; done) | (simp; omega)))) (by have := HLW.out w5 H5; (first | omega | (simp; done) | (simp; omega))) h6; clear h6) | (go_at_call 48; (with_reducible refine (c_l1Long g _ hg0 hg1).mono ?_); rintro e w7 ⟨rfl, h7⟩; have H7 : Below (w.heap.size + 1) (w.alloc (.cells #[.int .i64 f, .int .i64 t, .int .i64 g, .slice A n c] 25)) w7 := below_step (by (repeat' (first | (with_reducible assumption) | with_reducible exact Below.refl _ _ | with_reducible refine below_drew1 ?_ | with_reducible refine below_drewN ?_ _ | with_reducible refine Below.alloc ?_ ?_ _ | with_reducible refine Below.setCell ?_ ?_ _ | omega | (simp; done) | (simp; omega)))) (by have := HLW.out w6 H6; (first | omega | (simp; done) | (simp; omega))) h7; clear h7) | fail)
  clear u0 u1 u2
  have SH := Lib.hid H7
  clear H5 H6 H7
  have hz4 := zeros_size 4
  have hhd := pkHead_size f t g
  go_wp2
  go_loopw [3, 4] (fun out i wr => ∃ j : Nat, j ≤ n ∧ i = .int .i64 j ∧ out = .string (pkHead f t g ++ zeros 4 ++ chsB (xs.take j)) ∧ Below (w.heap.size + 1) (w.alloc (.cells #[.int .i64 f, .int .i64 t, .int .i64 g, .slice A n c] 25)) wr) (fun _ i _ => n - (intOf i).toNat)
  case atStart => exact ⟨0, Nat.zero_le _, rfl, by rw [List.take_zero]; show _ = Value.string (_ ++ ⟨#[]⟩); rw [app_empty], SH.out⟩
  case round =>
    obtain ⟨j, hj, rfl, rfl, hB⟩ := hrel
    have BS := Lib.hid hB
    have BR := Lib.hid (SW.out wr hB)
    have p3 := U3.out wr hB
    have plw := HLW.out wr hB
    have zr := BR.out.size
    have hle := chsB_take_le xs j 4 (by omega)
    clear hB hS0 SH EH
    by_cases hlt : j < n
    · obtain ⟨b, o, rfl, hb, hc⟩ := hG.2 (by omega)
      obtain ⟨c0, c1, c2⟩ := hc j hlt
      have hb2 : b < w.heap.size := by omega
      have d0 := (BR.out.cell (p := ⟨b, o + j * 3, none⟩) hb2).trans c0
      have d1 := (BR.out.cell (p := ⟨b, o + j * 3 + 1, none⟩) hb2).trans c1
      have d2 := (BR.out.cell (p := ⟨b, o + j * 3 + 2, none⟩) hb2).trans c2
      have hst := Lib.hid (chsB_take xs j (by rw [HL.out]; exact hlt))
      have hck := HOK.out j (by rw [HL.out]; exact hlt)
      generalize hgx : xs.getD j ch0 = y at *
      obtain ⟨a, e, s⟩ := y
      clear hgx hc c0 c1 c2
      have hcv := chunkPutV_ok (k := a) (f := e) (s := s) hck
      obtain ⟨k0, k1, k2, k3, k4⟩ := chOk_yes hck
      simp only at d0 d1 d2 k0 k1 k2 k3 k4
      have hjn : (j : Int) < (n : Int) := by omega
      have hj0 : (0 : Int) ≤ (j : Int) := by omega
      have cv := fun W => c_l11Put a e s W k0 k1 k2 k3 k4
      rw [← hcv] at cv
      have hq := chunkPutV_le a e s
      obtain ⟨q, hqe⟩ : ∃ q, chunkPutV a e s = q := ⟨_, rfl⟩
      rw [hqe] at cv hq
      have hst2 := Lib.hid (show chsB (xs.take (j + 1)) = chsB (xs.take j) ++ q by rw [hst.out, hqe])
      have CV := Lib.hid cv
      obtain ⟨r, hre⟩ : ∃ r, chsB (xs.take j) = r := ⟨_, rfl⟩
      have hst3 := Lib.hid (show pkHead f t g ++ zeros 4 ++ chsB (xs.take (j + 1)) = pkHead f t g ++ zeros 4 ++ r ++ q by rw [hst2.out, hre]; exact ByteArray.append_assoc.symm)
      rw [hre] at hle ⊢
      clear cv hst hst2 hqe hre hck hcv
      go_wp2_with fail
      refine (CV.out _).mono ?_
      rintro e2 w5 ⟨rfl, h2⟩
      have B5 := Lib.hid (below_step (B := w.heap.size + 1) (by exact BS.out) (by (first | omega | (simp; done) | (simp; omega))) h2)
      clear h2
      go_wp2
      go_roundw
      case rel => exact ⟨j + 1, by omega, by go_num, by rw [hst3.out], B5.out⟩
      case measure => simp [intOf]; omega
    · have hje : j = n := by omega
      subst hje
      have htk : xs.take j = xs := List.take_of_length_le (Nat.le_of_eq HL.out)
      rw [htk] at hle ⊢
      have HZ := Lib.hid (show pkHead f t g ++ zeros 4 ++ chsB xs = pkZ f t g xs from rfl)
      have hzs := pkZ_size f t g xs
      obtain ⟨hr0, hr1⟩ := sumV_range (pkZ f t g xs)
      obtain ⟨x8, x12⟩ := pkZ_cut f t g xs
      have HSM := Lib.hid (pkZ_sum f t g xs)
      have CS := Lib.hid (fun W => c_l13Sum (pkZ f t g xs) W (by omega) (by omega))
      rw [HSM.out] at CS
      rw [HZ.out]
      have CL := Lib.hid (fun W => c_l1Long (sumV (pkZ f t g xs)) W hr0 hr1)
      have hw4 := w4_size' (sumV (pkZ f t g xs))
      clear hr0 hr1 HSM HZ
      generalize sumV (pkZ f t g xs) = sm at *
      generalize w4 sm = sw at *
      generalize pkZ f t g xs = Z at *
      have i8 : (8 : Int) ≤ (Z.size : Int) := by omega
      have i12 : (12 : Int) ≤ (Z.size : Int) := by omega
      have bw : Below w.heap.size w wr := BR.out
      have n1 : ¬ 9223372036854775807 < 8 + 4 + (chsB xs).size := by omega
      have n2 : ¬ 9223372036854775807 < 12 + (chsB xs).size := by omega
      clear hzs hz4
      go_wp2_with fail
      go_region_held3 (fun W => Below w.heap.size w W)
        ((repeat' (first | (with_reducible assumption) | with_reducible exact Below.refl _ _ | with_reducible refine below_drew1 ?_ | with_reducible refine below_drewN ?_ _ | with_reducible refine Below.alloc ?_ ?_ _ | with_reducible refine Below.setCell ?_ ?_ _ | omega | (simp; done) | (simp; omega))))
        (first | (go_at_call 50; (with_reducible refine (CS.out _).mono ?_); rintro e2 w5 ⟨rfl, k5, rfl⟩) | (go_at_call 48; (with_reducible refine (CL.out _).mono ?_); rintro e2 w6 ⟨rfl, h6⟩; have H6 : Below w.heap.size w w6 := below_step (by (repeat' (first | (with_reducible assumption) | with_reducible exact Below.refl _ _ | with_reducible refine below_drew1 ?_ | with_reducible refine below_drewN ?_ _ | with_reducible refine Below.alloc ?_ ?_ _ | with_reducible refine Below.setCell ?_ ?_ _ | omega | (simp; done) | (simp; omega)))) (by have := bw.size; (first | omega | (simp; done) | (simp; omega))) h6; clear h6) | fail)
      all_goals
        go_wp2
        go_ret
        exact ⟨ret_string HPV.out.symm, by assumption⟩
set_option maxHeartbeats 4000000 in
theorem c_sPacketPut (f t g : Int) (A : Option Addr) (n c : Nat) (xs : List (Int × Int × ByteArray)) (B : Nat) (w : World) (hG : Gaps w B A n xs) (hBw : B ≤ w.heap.size) (hn : n ≤ maxLen) (hsz : ∀ i, i < n → (xs.getD i ch0).2.2.size ≤ maxLen) :
    Calls Try.prog 15 #[.agg #[.int .i64 f, .int .i64 t, .int .i64 g, .slice A n c]] w fun e w' => e = .returned (.string (pkPutV f t g xs)) ∧ Below w.heap.size w w' := by
  have cp := fun W h1 h2 => c_sPacketValid f t g A n c xs B W h1 h2 hn hsz
  have B0 := Lib.hid (Below.refl w.heap.size w)
  cases hok : pkOkV f t g xs with
  | false =>
    rw [pkPutV_no hok]
    rw [hok] at cp
    have CP := Lib.hid cp
    clear cp hsz hok
    go_enter Try.func15, Try.ntmps15
    go_wp2_with fail
    refine (CP.out _ (by (repeat' (first | (with_reducible exact hG) | with_reducible refine Gaps.alloc ?_ ?_ _ | with_reducible refine Gaps.setCell ?_ ?_ _ | with_reducible refine Gaps.drew ?_ | with_reducible refine Gaps.drewN ?_ _ | omega | (simp; done) | (simp; omega)))) (by first | omega | (simp; done) | (simp; omega))).mono ?_
    rintro e w1 ⟨rfl, h1⟩
    have P_1 : Blk w1 (w.heap.size) 25 #[.int .i64 f, .int .i64 t, .int .i64 g, .slice A n c] := Blk.below (by (repeat' (first | (with_reducible refine Blk.drewN ?_ _) | (with_reducible refine Blk.drew ?_) | (with_reducible refine Blk.new1 ?hb; case hb => (first | omega | (simp; done) | (simp; omega))) | (with_reducible refine Blk.alloc ?_ _) | (with_reducible refine' Blk.set2_0 ?_ ?hb; case hb => (first | omega | (simp; done) | (simp; omega))) | (with_reducible refine' Blk.set2_1 ?_ ?hb; case hb => (first | omega | (simp; done) | (simp; omega))) | (with_reducible refine' Blk.set3_0 ?_ ?hb; case hb => (first | omega | (simp; done) | (simp; omega))) | (with_reducible refine' Blk.set3_1 ?_ ?hb; case hb => (first | omega | (simp; done) | (simp; omega))) | (with_reducible refine' Blk.set3_2 ?_ ?hb; case hb => (first | omega | (simp; done) | (simp; omega))) | (with_reducible refine' Blk.set4_0 ?_ ?hb; case hb => (first | omega | (simp; done) | (simp; omega))) | (with_reducible refine' Blk.set4_1 ?_ ?hb; case hb => (first | omega | (simp; done) | (simp; omega))) | (with_reducible refine' Blk.set4_2 ?_ ?hb; case hb => (first | omega | (simp; done) | (simp; omega))) | (with_reducible refine' Blk.set4_3 ?_ ?hb; case hb => (first | omega | (simp; done) | (simp; omega))) | (with_reducible refine' Blk.set7_0 ?_ ?hb; case hb => (first | omega | (simp; done) | (simp; omega))) | (with_reducible refine' Blk.set7_1 ?_ ?hb; case hb => (first | omega | (simp; done) | (simp; omega))) | (with_reducible refine' Blk.set7_2 ?_ ?hb; case hb => (first | omega | (simp; done) | (simp; omega))) | (with_reducible refine' Blk.set7_3 ?_ ?hb; case hb => (first | omega | (simp; done) | (simp; omega))) | (with_reducible refine' Blk.set7_4 ?_ ?hb; case hb => (first | omega | (simp; done) | (simp; omega))) | (with_reducible refine' Blk.set7_5 ?_ ?hb; case hb => (first | omega | (simp; done) | (simp; omega))) | (with_reducible refine' Blk.set7_6 ?_ ?hb; case hb => (first | omega | (simp; done) | (simp; omega))) | (with_reducible refine Blk.far ?_ ?hb _; case hb => (first | omega | (simp; done) | (simp; omega))) | fail))) h1 (by (first | omega | (simp; done) | (simp; omega)))
    have B1 := Lib.hid (below_step (B := w.heap.size) (w0 := w) (by (repeat' (first | with_reducible exact B0.out | with_reducible exact Below.refl _ _ | with_reducible refine below_drew1 ?_ | with_reducible refine below_drewN ?_ _ | with_reducible refine Below.alloc ?_ ?_ _ | with_reducible refine Below.setCell ?_ ?_ _ | omega | (simp; done) | (simp; omega)))) (by have := B0.out.size; (first | omega | (simp; done) | (simp; omega))) h1)
    have z1 : w.heap.size ≤ w1.heap.size := B1.out.size
    clear h1 B0
    obtain ⟨⟨P_0_, P_1_, P_2_, P_3_⟩, P_f0_, P_f1_, P_f2_, P_f3_⟩ := P_1.get4
    have P_l := P_1.lt
    have P_l1_ : w.heap.size < w1.heap.size + 1 := by omega
    have P_l2_ : w.heap.size < w1.heap.size + 2 := by omega
    have P_l3_ : w.heap.size < w1.heap.size + 3 := by omega
    have P_l4_ : w.heap.size < w1.heap.size + 4 := by omega
    go_wp2
    go_ret
    exact ⟨rfl, by (repeat' (first | with_reducible exact B1.out | with_reducible exact Below.refl _ _ | with_reducible refine below_drew1 ?_ | with_reducible refine below_drewN ?_ _ | with_reducible refine Below.alloc ?_ ?_ _ | with_reducible refine Below.setCell ?_ ?_ _ | omega | (simp; done) | (simp; omega)))⟩
  | true =>
    have B0 := Lib.hid (Below.refl w.heap.size w)
    have CQ := Lib.hid (fun W h1 h2 => c_l13Put f t g A n c xs B W h1 h2 hok)
    rw [hok] at cp
    have CP := Lib.hid cp
    clear cp hsz hok hn
    go_enter Try.func15, Try.ntmps15
    go_wp2_with fail
    refine (CP.out _ (by (repeat' (first | (with_reducible exact hG) | with_reducible refine Gaps.alloc ?_ ?_ _ | with_reducible refine Gaps.setCell ?_ ?_ _ | with_reducible refine Gaps.drew ?_ | with_reducible refine Gaps.drewN ?_ _ | omega | (simp; done) | (simp; omega)))) (by first | omega | (simp; done) | (simp; omega))).mono ?_
    rintro e w1 ⟨rfl, h1⟩
    have P_1 : Blk w1 (w.heap.size) 25 #[.int .i64 f, .int .i64 t, .int .i64 g, .slice A n c] := Blk.below (by (repeat' (first | (with_reducible refine Blk.drewN ?_ _) | (with_reducible refine Blk.drew ?_) | (with_reducible refine Blk.new1 ?hb; case hb => (first | omega | (simp; done) | (simp; omega))) | (with_reducible refine Blk.alloc ?_ _) | (with_reducible refine' Blk.set2_0 ?_ ?hb; case hb => (first | omega | (simp; done) | (simp; omega))) | (with_reducible refine' Blk.set2_1 ?_ ?hb; case hb => (first | omega | (simp; done) | (simp; omega))) | (with_reducible refine' Blk.set3_0 ?_ ?hb; case hb => (first | omega | (simp; done) | (simp; omega))) | (with_reducible refine' Blk.set3_1 ?_ ?hb; case hb => (first | omega | (simp; done) | (simp; omega))) | (with_reducible refine' Blk.set3_2 ?_ ?hb; case hb => (first | omega | (simp; done) | (simp; omega))) | (with_reducible refine' Blk.set4_0 ?_ ?hb; case hb => (first | omega | (simp; done) | (simp; omega))) | (with_reducible refine' Blk.set4_1 ?_ ?hb; case hb => (first | omega | (simp; done) | (simp; omega))) | (with_reducible refine' Blk.set4_2 ?_ ?hb; case hb => (first | omega | (simp; done) | (simp; omega))) | (with_reducible refine' Blk.set4_3 ?_ ?hb; case hb => (first | omega | (simp; done) | (simp; omega))) | (with_reducible refine' Blk.set7_0 ?_ ?hb; case hb => (first | omega | (simp; done) | (simp; omega))) | (with_reducible refine' Blk.set7_1 ?_ ?hb; case hb => (first | omega | (simp; done) | (simp; omega))) | (with_reducible refine' Blk.set7_2 ?_ ?hb; case hb => (first | omega | (simp; done) | (simp; omega))) | (with_reducible refine' Blk.set7_3 ?_ ?hb; case hb => (first | omega | (simp; done) | (simp; omega))) | (with_reducible refine' Blk.set7_4 ?_ ?hb; case hb => (first | omega | (simp; done) | (simp; omega))) | (with_reducible refine' Blk.set7_5 ?_ ?hb; case hb => (first | omega | (simp; done) | (simp; omega))) | (with_reducible refine' Blk.set7_6 ?_ ?hb; case hb => (first | omega | (simp; done) | (simp; omega))) | (with_reducible refine Blk.far ?_ ?hb _; case hb => (first | omega | (simp; done) | (simp; omega))) | fail))) h1 (by (first | omega | (simp; done) | (simp; omega)))
    have B1 := Lib.hid (below_step (B := w.heap.size) (w0 := w) (by (repeat' (first | with_reducible exact B0.out | with_reducible exact Below.refl _ _ | with_reducible refine below_drew1 ?_ | with_reducible refine below_drewN ?_ _ | with_reducible refine Below.alloc ?_ ?_ _ | with_reducible refine Below.setCell ?_ ?_ _ | omega | (simp; done) | (simp; omega)))) (by have := B0.out.size; (first | omega | (simp; done) | (simp; omega))) h1)
    have z1 : w.heap.size ≤ w1.heap.size := B1.out.size
    clear h1 B0
    obtain ⟨⟨P_0_, P_1_, P_2_, P_3_⟩, P_f0_, P_f1_, P_f2_, P_f3_⟩ := P_1.get4
    have P_l := P_1.lt
    have P_l1_ : w.heap.size < w1.heap.size + 1 := by omega
    have P_l2_ : w.heap.size < w1.heap.size + 2 := by omega
    have P_l3_ : w.heap.size < w1.heap.size + 3 := by omega
    have P_l4_ : w.heap.size < w1.heap.size + 4 := by omega
    have G1 : Gaps w1 B A n xs := Gaps.below hG B1.out hBw
    go_wp2_with fail
    refine (CQ.out _ (by (repeat' (first | (with_reducible exact G1) | with_reducible refine Gaps.alloc ?_ ?_ _ | with_reducible refine Gaps.setCell ?_ ?_ _ | with_reducible refine Gaps.drew ?_ | with_reducible refine Gaps.drewN ?_ _ | omega | (simp; done) | (simp; omega)))) (by first | omega | (simp; done) | (simp; omega))).mono ?_
    rintro e w2 ⟨rfl, h2⟩
    have P_2 : Blk w2 (w.heap.size) 25 #[.int .i64 f, .int .i64 t, .int .i64 g, .slice A n c] := Blk.below (by (repeat' (first | (with_reducible exact P_1) | (with_reducible refine Blk.drewN ?_ _) | (with_reducible refine Blk.drew ?_) | (with_reducible refine Blk.new1 ?hb; case hb => (first | omega | (simp; done) | (simp; omega))) | (with_reducible refine Blk.alloc ?_ _) | (with_reducible refine' Blk.set2_0 ?_ ?hb; case hb => (first | omega | (simp; done) | (simp; omega))) | (with_reducible refine' Blk.set2_1 ?_ ?hb; case hb => (first | omega | (simp; done) | (simp; omega))) | (with_reducible refine' Blk.set3_0 ?_ ?hb; case hb => (first | omega | (simp; done) | (simp; omega))) | (with_reducible refine' Blk.set3_1 ?_ ?hb; case hb => (first | omega | (simp; done) | (simp; omega))) | (with_reducible refine' Blk.set3_2 ?_ ?hb; case hb => (first | omega | (simp; done) | (simp; omega))) | (with_reducible refine' Blk.set4_0 ?_ ?hb; case hb => (first | omega | (simp; done) | (simp; omega))) | (with_reducible refine' Blk.set4_1 ?_ ?hb; case hb => (first | omega | (simp; done) | (simp; omega))) | (with_reducible refine' Blk.set4_2 ?_ ?hb; case hb => (first | omega | (simp; done) | (simp; omega))) | (with_reducible refine' Blk.set4_3 ?_ ?hb; case hb => (first | omega | (simp; done) | (simp; omega))) | (with_reducible refine' Blk.set7_0 ?_ ?hb; case hb => (first | omega | (simp; done) | (simp; omega))) | (with_reducible refine' Blk.set7_1 ?_ ?hb; case hb => (first | omega | (simp; done) | (simp; omega))) | (with_reducible refine' Blk.set7_2 ?_ ?hb; case hb => (first | omega | (simp; done) | (simp; omega))) | (with_reducible refine' Blk.set7_3 ?_ ?hb; case hb => (first | omega | (simp; done) | (simp; omega))) | (with_reducible refine' Blk.set7_4 ?_ ?hb; case hb => (first | omega | (simp; done) | (simp; omega))) | (with_reducible refine' Blk.set7_5 ?_ ?hb; case hb => (first | omega | (simp; done) | (simp; omega))) | (with_reducible refine' Blk.set7_6 ?_ ?hb; case hb => (first | omega | (simp; done) | (simp; omega))) | (with_reducible refine Blk.far ?_ ?hb _; case hb => (first | omega | (simp; done) | (simp; omega))) | fail))) h2 (by (first | omega | (simp; done) | (simp; omega)))
    have B2 := Lib.hid (below_step (B := w.heap.size) (w0 := w) (by (repeat' (first | with_reducible exact B1.out | with_reducible exact Below.refl _ _ | with_reducible refine below_drew1 ?_ | with_reducible refine below_drewN ?_ _ | with_reducible refine Below.alloc ?_ ?_ _ | with_reducible refine Below.setCell ?_ ?_ _ | omega | (simp; done) | (simp; omega)))) (by have := B1.out.size; (first | omega | (simp; done) | (simp; omega))) h2)
    have z2 : w.heap.size ≤ w2.heap.size := B2.out.size
    clear h2 B1 z1 P_1
    try clear P_l P_0_ P_1_ P_2_ P_3_ P_l1_ P_l2_ P_l3_ P_l4_
    obtain ⟨⟨P_0_, P_1_, P_2_, P_3_⟩, P_f0_, P_f1_, P_f2_, P_f3_⟩ := P_2.get4
    have P_l := P_2.lt
    have P_l1_ : w.heap.size < w2.heap.size + 1 := by omega
    have P_l2_ : w.heap.size < w2.heap.size + 2 := by omega
    have P_l3_ : w.heap.size < w2.heap.size + 3 := by omega
    have P_l4_ : w.heap.size < w2.heap.size + 4 := by omega
    go_wp2
    go_ret
    exact ⟨rfl, by (repeat' (first | with_reducible exact B2.out | with_reducible exact Below.refl _ _ | with_reducible refine below_drew1 ?_ | with_reducible refine below_drewN ?_ _ | with_reducible refine Below.alloc ?_ ?_ _ | with_reducible refine Below.setCell ?_ ?_ _ | omega | (simp; done) | (simp; omega)))⟩
end Go.Proofs.Ytfkajcljcbdjiaa
