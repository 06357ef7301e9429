/-
  Reading an init: the reference's function.
-/
import Derived.Test.YtegjbhngkhdcfaaInitGet
import Derived.Deep.DeepCutAuto
import Derived.KernelRfl
namespace Go.Proofs.Ytegjbhngkhdcfaa
set_option linter.unusedVariables false
set_option linter.unusedSimpArgs false
open Go.RowKit

theorem c_sInitGet_head (k f : Int) (s : ByteArray) (w : World) (hs : s.size ≤ maxLen) (h : igHead k f s = false) :
    Calls Try.prog 19 #[.agg #[.int .i64 k, .int .i64 f, .string s]] w fun e w' => e = .returned initNo ∧ Below w.heap.size w w' := by
  unfold maxLen at hs
  have B0 := Lib.hid (Below.refl w.heap.size w)
  rcases igHead_no h with ⟨h1, h2⟩ | ⟨h1 | h1, h2⟩ | ⟨h1 | h1, h2, h3⟩
  · clear h
    have k1 : (k != 1) = true := by simp; omega
    have k2 : (k != 2) = true := by simp; omega
    go_enter Try.func19, Try.ntmps19
    go_wp2
    exact bodyPost_ret (v := initNo) (by simp [initNo, results, Try.results19, go_sem]) rfl ⟨rfl, by (repeat' (first | with_reducible exact B0.out | with_reducible exact Below.refl _ _ | with_reducible refine below_drew1 ?_ | with_reducible refine below_drewN ?_ _ | with_reducible refine Below.alloc ?_ ?_ _ | with_reducible refine Below.setCell ?_ ?_ _ | omega | (simp; done) | (simp; omega)))⟩
  · subst h1
    clear h
    have k1 : (f != 0) = true := by simp; omega
    go_enter Try.func19, Try.ntmps19
    go_wp2
    exact bodyPost_ret (v := initNo) (by simp [initNo, results, Try.results19, go_sem]) rfl ⟨rfl, by (repeat' (first | with_reducible exact B0.out | with_reducible exact Below.refl _ _ | with_reducible refine below_drew1 ?_ | with_reducible refine below_drewN ?_ _ | with_reducible refine Below.alloc ?_ ?_ _ | with_reducible refine Below.setCell ?_ ?_ _ | omega | (simp; done) | (simp; omega)))⟩
  · subst h1
    clear h
    have k1 : (f != 0) = true := by simp; omega
    go_enter Try.func19, Try.ntmps19
    go_wp2
    exact bodyPost_ret (v := initNo) (by simp [initNo, results, Try.results19, go_sem]) rfl ⟨rfl, by (repeat' (first | with_reducible exact B0.out | with_reducible exact Below.refl _ _ | with_reducible refine below_drew1 ?_ | with_reducible refine below_drewN ?_ _ | with_reducible refine Below.alloc ?_ ?_ _ | with_reducible refine Below.setCell ?_ ?_ _ | omega | (simp; done) | (simp; omega)))⟩
  · subst h1 h2
    clear h
    have k1 : ((s.size : Int) != 10) = true := by simp; omega
    go_enter Try.func19, Try.ntmps19
    go_wp2
    exact bodyPost_ret (v := initNo) (by simp [initNo, results, Try.results19, go_sem]) rfl ⟨rfl, by (repeat' (first | with_reducible exact B0.out | with_reducible exact Below.refl _ _ | with_reducible refine below_drew1 ?_ | with_reducible refine below_drewN ?_ _ | with_reducible refine Below.alloc ?_ ?_ _ | with_reducible refine Below.setCell ?_ ?_ _ | omega | (simp; done) | (simp; omega)))⟩
  · subst h1 h2
    clear h
    have k1 : ((s.size : Int) != 10) = true := by simp; omega
    go_enter Try.func19, Try.ntmps19
    go_wp2
    exact bodyPost_ret (v := initNo) (by simp [initNo, results, Try.results19, go_sem]) rfl ⟨rfl, by (repeat' (first | with_reducible exact B0.out | with_reducible exact Below.refl _ _ | with_reducible refine below_drew1 ?_ | with_reducible refine below_drewN ?_ _ | with_reducible refine Below.alloc ?_ ?_ _ | with_reducible refine Below.setCell ?_ ?_ _ | omega | (simp; done) | (simp; omega)))⟩

theorem la0 (s : ByteArray) (w : World) (h : 10 ≤ s.size) (hs : s.size ≤ maxLen) : Calls Try.prog 46 #[.string s, .int .i64 0] w fun e w' => e = .returned (.int .i64 (wdAt s 0)) ∧ ∃ n, w.drewN n = w' := c_l1At s 0 w (by omega) hs
theorem la2 (s : ByteArray) (w : World) (h : 10 ≤ s.size) (hs : s.size ≤ maxLen) : Calls Try.prog 46 #[.string s, .int .i64 2] w fun e w' => e = .returned (.int .i64 (wdAt s 2)) ∧ ∃ n, w.drewN n = w' := c_l1At s 2 w (by omega) hs
theorem la4 (s : ByteArray) (w : World) (h : 10 ≤ s.size) (hs : s.size ≤ maxLen) : Calls Try.prog 46 #[.string s, .int .i64 4] w fun e w' => e = .returned (.int .i64 (wdAt s 4)) ∧ ∃ n, w.drewN n = w' := c_l1At s 4 w (by omega) hs
theorem la6 (s : ByteArray) (w : World) (h : 10 ≤ s.size) (hs : s.size ≤ maxLen) : Calls Try.prog 46 #[.string s, .int .i64 6] w fun e w' => e = .returned (.int .i64 (wdAt s 6)) ∧ ∃ n, w.drewN n = w' := c_l1At s 6 w (by omega) hs
theorem la8 (s : ByteArray) (w : World) (h : 10 ≤ s.size) (hs : s.size ≤ maxLen) : Calls Try.prog 46 #[.string s, .int .i64 8] w fun e w' => e = .returned (.int .i64 (wdAt s 8)) ∧ ∃ n, w.drewN n = w' := c_l1At s 8 w (by omega) hs

set_option maxHeartbeats 16000000 in
theorem c_sInitGet_in (k : Int) (s : ByteArray) (w : World) (h1 : k = 1 ∨ k = 2) (hs : s.size = 10) (v : Bool) (hv : igIn s = v) :
    Calls Try.prog 19 #[.agg #[.int .i64 k, .int .i64 0, .string s]] w fun e w' => e = .returned (bif v then initYes s else initNo) ∧ Below w.heap.size w w' := by
  have k1 : ((s.size : Int) != 10) = false := by simp; omega
  have s10 : 10 ≤ s.size := by omega
  have sx : s.size ≤ maxLen := by unfold maxLen; omega
  have HV := Lib.hid hv
  have B0 := Lib.hid (Below.refl w.heap.size w)
  clear hs hv
  obtain ⟨r00, r01⟩ := wdAt_range s 0
  obtain ⟨r20, r21⟩ := wdAt_range s 2
  have y1 : IntKind.i64.wrap (65536 * wdAt s 0) = 65536 * wdAt s 0 := IntWalk.i64_in _ (by omega)
  have y2 : IntKind.i64.wrap (65536 * wdAt s 0 + wdAt s 2) = 65536 * wdAt s 0 + wdAt s 2 := IntWalk.i64_in _ (by omega)
  have Z := Lib.hid (show 65536 * wdAt s 0 + wdAt s 2 = lgAt s 0 from rfl)
  have hk : (k != 1) = false ∨ ((k != 1) = true ∧ (k != 2) = false) := by rcases h1 with rfl | rfl <;> decide
  clear h1
  have hP := (Blk.new w 24 #[.int .i64 k, .int .i64 0, .string s]).alloc (.cells #[.int .i64 0, .int .i64 0, .int .i64 0, .int .i64 0] 27)
  have hR : Blk ((w.alloc (.cells #[.int .i64 k, .int .i64 0, .string s] 24)).alloc (.cells #[.int .i64 0, .int .i64 0, .int .i64 0, .int .i64 0] 27)) (w.heap.size + 1) 27 #[.int .i64 0, .int .i64 0, .int .i64 0, .int .i64 0] := by simpa using Blk.new (w.alloc (.cells #[.int .i64 k, .int .i64 0, .string s] 24)) 27 #[.int .i64 0, .int .i64 0, .int .i64 0, .int .i64 0]
  have hl2 := fun (W : World) (hW : Below (w.heap.size + 2) ((w.alloc (.cells #[.int .i64 k, .int .i64 0, .string s] 24)).alloc (.cells #[.int .i64 0, .int .i64 0, .int .i64 0, .int .i64 0] 27)) W) => show W.cell? ⟨w.heap.size, 2, none⟩ = some (.string s) from (hP.below hW (by omega)).cell 2
  have HR := Lib.hid hR
  clear hP hR
  go_enter Try.func19, Try.ntmps19
  go_upto_region 1 with fail
  go_cut [23] (fun s23 wx => s23 = .bool false ∧ wx = (w.alloc (.cells #[.int .i64 k, .int .i64 0, .string s] 24)).alloc (.cells #[.int .i64 0, .int .i64 0, .int .i64 0, .int .i64 0] 27))
  case first =>
    rcases hk with kb | ⟨kb, kb2⟩
    all_goals
      go_wp2_with fail
      go_meet
      exact ⟨rfl, rfl⟩
  case rest =>
    obtain ⟨rfl, rfl⟩ := hcut
    go_upto_region 3 with fail
    go_cut [4] (fun s4 wx => ∃ g : Nat, s4 = .pointer (some ⟨g, 0, none⟩) ∧ w.heap.size + 1 < g ∧ Blk wx g 27 #[.int .i64 (lgAt s 0), .int .i64 (wdAt s 4), .int .i64 (wdAt s 6), .int .i64 (wdAt s 8)] ∧ Blk wx (w.heap.size + 1) 27 #[.int .i64 0, .int .i64 0, .int .i64 0, .int .i64 0] ∧ Below w.heap.size w wx)
    case first =>
      go_region_held3 (fun w' => Below (w.heap.size + 2) ((w.alloc (.cells #[.int .i64 k, .int .i64 0, .string s] 24)).alloc (.cells #[.int .i64 0, .int .i64 0, .int .i64 0, .int .i64 0] 27)) w')
        ((repeat' (first | assumption | with_reducible exact Below.refl _ _ | with_reducible refine below_drew1 ?_ | with_reducible refine below_drewN ?_ _ | with_reducible refine Below.alloc ?_ ?_ _ | with_reducible refine Below.setCell ?_ ?_ _ | omega | (simp; done) | (simp; omega))))
        (first | (go_at_call 46; (with_reducible refine (la0 s _ s10 sx).mono ?_); rintro e w2 ⟨rfl, n, rfl⟩) | (go_at_call 46; (with_reducible refine (la2 s _ s10 sx).mono ?_); rintro e w2 ⟨rfl, n, rfl⟩) | (go_at_call 46; (with_reducible refine (la4 s _ s10 sx).mono ?_); rintro e w2 ⟨rfl, n, rfl⟩) | (go_at_call 46; (with_reducible refine (la6 s _ s10 sx).mono ?_); rintro e w2 ⟨rfl, n, rfl⟩) | (go_at_call 46; (with_reducible refine (la8 s _ s10 sx).mono ?_); rintro e w2 ⟨rfl, n, rfl⟩))
      all_goals
        go_wp2_with fail
        go_meet
        refine ⟨w.heap.size + 2, rfl, by omega, ?_, ?_, ?_⟩
        · (try rw [Z.out])
          (repeat' (first | (with_reducible refine Blk.drewN ?_ _) | (with_reducible refine Blk.drew ?_) | (with_reducible refine Blk.new1 ?hb; case hb => (first | omega | (simp; done) | (simp; omega))) | (with_reducible refine Blk.alloc ?_ _) | (with_reducible refine' Blk.set3_0 ?_ ?hb; case hb => (first | omega | (simp; done) | (simp; omega))) | (with_reducible refine' Blk.set3_1 ?_ ?hb; case hb => (first | omega | (simp; done) | (simp; omega))) | (with_reducible refine' Blk.set3_2 ?_ ?hb; case hb => (first | omega | (simp; done) | (simp; omega))) | (with_reducible refine' Blk.set4_0 ?_ ?hb; case hb => (first | omega | (simp; done) | (simp; omega))) | (with_reducible refine' Blk.set4_1 ?_ ?hb; case hb => (first | omega | (simp; done) | (simp; omega))) | (with_reducible refine' Blk.set4_2 ?_ ?hb; case hb => (first | omega | (simp; done) | (simp; omega))) | (with_reducible refine' Blk.set4_3 ?_ ?hb; case hb => (first | omega | (simp; done) | (simp; omega))) | (with_reducible refine' Blk.set7_0 ?_ ?hb; case hb => (first | omega | (simp; done) | (simp; omega))) | (with_reducible refine' Blk.set7_1 ?_ ?hb; case hb => (first | omega | (simp; done) | (simp; omega))) | (with_reducible refine' Blk.set7_2 ?_ ?hb; case hb => (first | omega | (simp; done) | (simp; omega))) | (with_reducible refine' Blk.set7_3 ?_ ?hb; case hb => (first | omega | (simp; done) | (simp; omega))) | (with_reducible refine' Blk.set7_4 ?_ ?hb; case hb => (first | omega | (simp; done) | (simp; omega))) | (with_reducible refine' Blk.set7_5 ?_ ?hb; case hb => (first | omega | (simp; done) | (simp; omega))) | (with_reducible refine' Blk.set7_6 ?_ ?hb; case hb => (first | omega | (simp; done) | (simp; omega))) | (with_reducible refine Blk.far ?_ ?hb _; case hb => (first | omega | (simp; done) | (simp; omega))) | fail))
        · (repeat' (first | (with_reducible exact HR.out) | (with_reducible refine Blk.drewN ?_ _) | (with_reducible refine Blk.drew ?_) | (with_reducible refine Blk.new1 ?hb; case hb => (first | omega | (simp; done) | (simp; omega))) | (with_reducible refine Blk.alloc ?_ _) | (with_reducible refine' Blk.set3_0 ?_ ?hb; case hb => (first | omega | (simp; done) | (simp; omega))) | (with_reducible refine' Blk.set3_1 ?_ ?hb; case hb => (first | omega | (simp; done) | (simp; omega))) | (with_reducible refine' Blk.set3_2 ?_ ?hb; case hb => (first | omega | (simp; done) | (simp; omega))) | (with_reducible refine' Blk.set4_0 ?_ ?hb; case hb => (first | omega | (simp; done) | (simp; omega))) | (with_reducible refine' Blk.set4_1 ?_ ?hb; case hb => (first | omega | (simp; done) | (simp; omega))) | (with_reducible refine' Blk.set4_2 ?_ ?hb; case hb => (first | omega | (simp; done) | (simp; omega))) | (with_reducible refine' Blk.set4_3 ?_ ?hb; case hb => (first | omega | (simp; done) | (simp; omega))) | (with_reducible refine' Blk.set7_0 ?_ ?hb; case hb => (first | omega | (simp; done) | (simp; omega))) | (with_reducible refine' Blk.set7_1 ?_ ?hb; case hb => (first | omega | (simp; done) | (simp; omega))) | (with_reducible refine' Blk.set7_2 ?_ ?hb; case hb => (first | omega | (simp; done) | (simp; omega))) | (with_reducible refine' Blk.set7_3 ?_ ?hb; case hb => (first | omega | (simp; done) | (simp; omega))) | (with_reducible refine' Blk.set7_4 ?_ ?hb; case hb => (first | omega | (simp; done) | (simp; omega))) | (with_reducible refine' Blk.set7_5 ?_ ?hb; case hb => (first | omega | (simp; done) | (simp; omega))) | (with_reducible refine' Blk.set7_6 ?_ ?hb; case hb => (first | omega | (simp; done) | (simp; omega))) | (with_reducible refine Blk.far ?_ ?hb _; case hb => (first | omega | (simp; done) | (simp; omega))) | fail))
        · (repeat' (first | with_reducible exact B0.out | with_reducible exact Below.refl _ _ | with_reducible refine below_drew1 ?_ | with_reducible refine below_drewN ?_ _ | with_reducible refine Below.alloc ?_ ?_ _ | with_reducible refine Below.setCell ?_ ?_ _ | omega | (simp; done) | (simp; omega)))
    case rest =>
      obtain ⟨g, rfl, hg, hB, hR, hBel⟩ := hcut
      have hz := hB.lt
      have B2 := Lib.hid hBel
      obtain ⟨⟨p0, p1, p2, p3⟩, -⟩ := hB.get4
      go_wp2_with fail
      refine (c_l12Init _ _ _ _ _).mono ?_
      rw [show initOkV (lgAt s 0) (wdAt s 4) (wdAt s 6) (wdAt s 8) = v from HV.out]
      rintro e w5 ⟨rfl, h5⟩
      obtain ⟨⟨q0, q1, q2, q3⟩, -⟩ := (hB.below h5 hB.lt).get4
      obtain ⟨⟨c0, c1, c2, c3⟩, f0, f1, f2, f3⟩ := (hR.below h5 hR.lt).get4
      have B5 := Lib.hid (below_step (B := w.heap.size) (w0 := w) hBel hBel.size h5)
      clear h5 hB hR hBel p0 p1 p2 p3
      cases v with
      | true =>
        go_wp2
        exact bodyPost_ret (v := initYes s) (by simp [initYes, results, Try.results19, go_sem, c0, c1, c2, c3]) rfl ⟨rfl, by (repeat' (first | with_reducible exact B5.out | with_reducible exact Below.refl _ _ | with_reducible refine below_drew1 ?_ | with_reducible refine below_drewN ?_ _ | with_reducible refine Below.alloc ?_ ?_ _ | with_reducible refine Below.setCell ?_ ?_ _ | omega | (simp; done) | (simp; omega)))⟩
      | false =>
        go_wp2
        exact bodyPost_ret (v := initNo) (by simp [initNo, results, Try.results19, go_sem, c0, c1, c2, c3]) rfl ⟨rfl, by (repeat' (first | with_reducible exact B5.out | with_reducible exact Below.refl _ _ | with_reducible refine below_drew1 ?_ | with_reducible refine below_drewN ?_ _ | with_reducible refine Below.alloc ?_ ?_ _ | with_reducible refine Below.setCell ?_ ?_ _ | omega | (simp; done) | (simp; omega)))⟩

theorem c_sInitGet (k f : Int) (s : ByteArray) (w : World) (hs : s.size ≤ maxLen) :
    Calls Try.prog 19 #[.agg #[.int .i64 k, .int .i64 f, .string s]] w fun e w' => e = .returned (igV k f s) ∧ Below w.heap.size w w' := by
  cases hh : igHead k f s with
  | false =>
    rw [igV_no (show igOk k f s = false by unfold igOk; rw [hh]; rfl)]
    exact c_sInitGet_head k f s w hs hh
  | true =>
    obtain ⟨h1, rfl, h3⟩ := igHead_yes hh
    have := c_sInitGet_in k s w h1 h3 (igIn s) rfl
    cases hv : igIn s with
    | false =>
      rw [igV_no (show igOk k 0 s = false by unfold igOk; rw [hh, hv]; rfl)]
      rw [hv] at this
      exact this
    | true =>
      rw [igV_yes (show igOk k 0 s = true by unfold igOk; rw [hh, hv]; rfl)]
      rw [hv] at this
      exact this
end Go.Proofs.Ytegjbhngkhdcfaa
