/-
  Reading a part: the reference's function.
-/
import Derived.Test.YtegjbhngkhdcfaaDataGet
import Derived.Deep.DeepCutAuto
import Derived.KernelRfl
namespace Go.Proofs.Ytegjbhngkhdcfaa
set_option linter.unusedVariables false
set_option linter.unusedSimpArgs false
open Go.RowKit

theorem inB_no (f : Int) (h : f < 0 ∨ 7 < f) : inB f 0 7 = false := by unfold inB; simp; omega
theorem inB_yes (f : Int) (h : 0 ≤ f) (h1 : f ≤ 7) : inB f 0 7 = true := by unfold inB; simp; omega
theorem c_sDataGet_head (k f : Int) (s : ByteArray) (w : World) (hs : s.size ≤ maxLen) (h : dgHead k f s = false) :
    Calls Try.prog 27 #[.agg #[.int .i64 k, .int .i64 f, .string s]] w fun e w' => e = .returned dataNo ∧ Below w.heap.size w w' := by
  unfold maxLen at hs
  have B0 := Lib.hid (Below.refl w.heap.size w)
  have hh : k ≠ 0 ∨ (k = 0 ∧ inB f 0 7 = false) ∨ (k = 0 ∧ inB f 0 7 = true ∧ s.size < 6) := by
    rcases dgHead_no h with h1 | ⟨h1, h2⟩ | ⟨h1, h2, h3⟩ | ⟨h1, h2, h3, h4⟩
    · exact .inl h1
    · exact .inr (.inl ⟨h1, inB_no f (.inl h2)⟩)
    · exact .inr (.inl ⟨h1, inB_no f (.inr h3)⟩)
    · exact .inr (.inr ⟨h1, inB_yes f h2 h3, h4⟩)
  clear h
  rcases hh with h1 | ⟨h1, h2⟩ | ⟨h1, h2, h3⟩
  · have k1 : (k != 0) = true := by simp; omega
    go_enter Try.func27, Try.ntmps27
    go_wp2
    exact bodyPost_ret (v := dataNo) (by simp [dataNo, results, Try.results27, go_sem]) rfl ⟨rfl, by (repeat' (first | with_reducible exact B0.out | with_reducible exact Below.refl _ _ | with_reducible refine below_drew1 ?_ | with_reducible refine below_drewN ?_ _ | with_reducible refine Below.alloc ?_ ?_ _ | with_reducible refine Below.setCell ?_ ?_ _ | omega | (simp; done) | (simp; omega)))⟩
  · subst h1
    go_enter Try.func27, Try.ntmps27
    go_wp2_with (go_at_call 52; refine (c_l6In f 0 7 _).mono ?_; rintro e w' ⟨rfl, rfl⟩)
    exact bodyPost_ret (v := dataNo) (by simp [dataNo, results, Try.results27, go_sem]) rfl ⟨rfl, by (repeat' (first | with_reducible exact B0.out | with_reducible exact Below.refl _ _ | with_reducible refine below_drew1 ?_ | with_reducible refine below_drewN ?_ _ | with_reducible refine Below.alloc ?_ ?_ _ | with_reducible refine Below.setCell ?_ ?_ _ | omega | (simp; done) | (simp; omega)))⟩
  · subst h1
    have h5 : (s.size : Int) < 6 := by omega
    go_enter Try.func27, Try.ntmps27
    go_wp2_with (go_at_call 52; refine (c_l6In f 0 7 _).mono ?_; rintro e w' ⟨rfl, rfl⟩)
    exact bodyPost_ret (v := dataNo) (by simp [dataNo, results, Try.results27, go_sem]) rfl ⟨rfl, by (repeat' (first | with_reducible exact B0.out | with_reducible exact Below.refl _ _ | with_reducible refine below_drew1 ?_ | with_reducible refine below_drewN ?_ _ | with_reducible refine Below.alloc ?_ ?_ _ | with_reducible refine Below.setCell ?_ ?_ _ | omega | (simp; done) | (simp; omega)))⟩

theorem da0 (s : ByteArray) (w : World) (h : 6 ≤ s.size) (hs : s.size ≤ 2000000) : Calls Try.prog 46 #[.string s, .int .i64 0] w fun e w' => e = .returned (.int .i64 (wdAt s 0)) ∧ ∃ n, w.drewN n = w' := c_l1At s 0 w (by omega) (by unfold maxLen; omega)
theorem da2 (s : ByteArray) (w : World) (h : 6 ≤ s.size) (hs : s.size ≤ 2000000) : Calls Try.prog 46 #[.string s, .int .i64 2] w fun e w' => e = .returned (.int .i64 (wdAt s 2)) ∧ ∃ n, w.drewN n = w' := c_l1At s 2 w (by omega) (by unfold maxLen; omega)
theorem da4 (s : ByteArray) (w : World) (h : 6 ≤ s.size) (hs : s.size ≤ 2000000) : Calls Try.prog 46 #[.string s, .int .i64 4] w fun e w' => e = .returned (.int .i64 (wdAt s 4)) ∧ ∃ n, w.drewN n = w' := c_l1At s 4 w (by omega) (by unfold maxLen; omega)

theorem bit2 (f : Int) (h : 0 ≤ f) (h1 : f ≤ 7) : (f % 2 == 1) = fL f ∧ (f / 2 % 2 == 1) = fF f ∧ (f / 4 == 1) = fO f := by
  rcases (show f = 0 ∨ f = 1 ∨ f = 2 ∨ f = 3 ∨ f = 4 ∨ f = 5 ∨ f = 6 ∨ f = 7 by omega) with rfl | rfl | rfl | rfl | rfl | rfl | rfl | rfl <;> exact ⟨by decide, by decide, by decide⟩

set_option maxRecDepth 100000 in
set_option maxHeartbeats 40000000 in
theorem c_sDataGet_in (f : Int) (s : ByteArray) (w : World) (hf : 0 ≤ f) (hf1 : f ≤ 7) (hs : 6 ≤ s.size) (hsm : s.size ≤ 2000000) (v : Bool) (hv : dgIn s = v) :
    Calls Try.prog 27 #[.agg #[.int .i64 0, .int .i64 f, .string s]] w fun e w' => e = .returned (bif v then dgYes f s else dataNo) ∧ Below w.heap.size w w' := by
  have q1 : (6 : Int) ≤ (s.size : Int) := by omega
  have hin := inB_yes f hf hf1
  obtain ⟨e1, e2, e4⟩ := bit2 f hf hf1
  have cd := fun W => c_l12Data (wdAt s 0) (wdAt s 2) (wdAt s 4) (fF f) (fL f) (fO f) (s.extract 6 s.size) W (by rw [ByteArray.size_extract]; unfold maxLen; omega)
  rw [show dataOkV (wdAt s 0) (wdAt s 2) (wdAt s 4) (s.extract 6 s.size) = v from hv] at cd
  have CD := Lib.hid cd
  have B0 := Lib.hid (Below.refl w.heap.size w)
  clear hv cd
  have hP := (Blk.new w 24 #[.int .i64 0, .int .i64 f, .string s]).alloc (.cells #[.int .i64 0, .int .i64 0, .int .i64 0, .bool false, .bool false, .bool false, .string ⟨#[]⟩] 43)
  have hR : Blk ((w.alloc (.cells #[.int .i64 0, .int .i64 f, .string s] 24)).alloc (.cells #[.int .i64 0, .int .i64 0, .int .i64 0, .bool false, .bool false, .bool false, .string ⟨#[]⟩] 43)) (w.heap.size + 1) 43 #[.int .i64 0, .int .i64 0, .int .i64 0, .bool false, .bool false, .bool false, .string ⟨#[]⟩] := by simpa using Blk.new (w.alloc (.cells #[.int .i64 0, .int .i64 f, .string s] 24)) 43 #[.int .i64 0, .int .i64 0, .int .i64 0, .bool false, .bool false, .bool false, .string ⟨#[]⟩]
  have hl2 := fun (W : World) (hW : Below (w.heap.size + 2) ((w.alloc (.cells #[.int .i64 0, .int .i64 f, .string s] 24)).alloc (.cells #[.int .i64 0, .int .i64 0, .int .i64 0, .bool false, .bool false, .bool false, .string ⟨#[]⟩] 43)) W) => show W.cell? ⟨w.heap.size, 2, none⟩ = some (.string s) from (hP.below hW (by omega)).cell 2
  have HL := Lib.hid hl2
  have HP := Lib.hid hP
  have HR := Lib.hid hR
  clear hP hR hl2
  go_enter Try.func27, Try.ntmps27
  go_upto_region 3 with (go_at_call 52; refine (c_l6In f 0 7 _).mono ?_; rintro e w' ⟨rfl, rfl⟩)
  go_cut [4] (fun s4 wx => ∃ g : Nat, s4 = .pointer (some ⟨g, 0, none⟩) ∧ w.heap.size + 1 < g ∧ Blk wx g 43 #[.int .i64 (wdAt s 0), .int .i64 (wdAt s 2), .int .i64 (wdAt s 4), .bool false, .bool false, .bool false, .string (s.extract 6 s.size)] ∧ Blk wx (w.heap.size + 1) 43 #[.int .i64 0, .int .i64 0, .int .i64 0, .bool false, .bool false, .bool false, .string ⟨#[]⟩] ∧ Blk wx w.heap.size 24 #[.int .i64 0, .int .i64 f, .string s] ∧ Below w.heap.size w wx)
  case first =>
    have hl2 := HL.out
    go_region_held3 (fun w' => Below (w.heap.size + 2) ((w.alloc (.cells #[.int .i64 0, .int .i64 f, .string s] 24)).alloc (.cells #[.int .i64 0, .int .i64 0, .int .i64 0, .bool false, .bool false, .bool false, .string ⟨#[]⟩] 43)) w')
      ((repeat' (first | (with_reducible assumption) | with_reducible exact Below.refl _ _ | with_reducible refine below_drew1 ?_ | with_reducible refine below_drewN ?_ _ | with_reducible refine Below.alloc ?_ ?_ _ | with_reducible refine Below.setCell ?_ ?_ _ | omega | (simp; done) | (simp; omega))))
      (first | (go_at_call 46; (with_reducible refine (da0 s _ hs hsm).mono ?_); rintro e w2 ⟨rfl, n, rfl⟩) | (go_at_call 46; (with_reducible refine (da2 s _ hs hsm).mono ?_); rintro e w2 ⟨rfl, n, rfl⟩) | (go_at_call 46; (with_reducible refine (da4 s _ hs hsm).mono ?_); rintro e w2 ⟨rfl, n, rfl⟩))
    all_goals
      clear hl2
      go_wp2_with fail
      go_meet
      refine ⟨w.heap.size + 2, rfl, by omega, ?_, ?_, ?_, ?_⟩
      · (repeat' (first | (with_reducible refine Blk.drewN ?_ _) | (with_reducible refine Blk.drew ?_) | (with_reducible refine Blk.new1 ?hb; case hb => (first | omega | (simp; done) | (simp; omega))) | (with_reducible refine Blk.alloc ?_ _) | (with_reducible refine' Blk.set3_0 ?_ ?hb; case hb => (first | omega | (simp; done) | (simp; omega))) | (with_reducible refine' Blk.set3_1 ?_ ?hb; case hb => (first | omega | (simp; done) | (simp; omega))) | (with_reducible refine' Blk.set3_2 ?_ ?hb; case hb => (first | omega | (simp; done) | (simp; omega))) | (with_reducible refine' Blk.set4_0 ?_ ?hb; case hb => (first | omega | (simp; done) | (simp; omega))) | (with_reducible refine' Blk.set4_1 ?_ ?hb; case hb => (first | omega | (simp; done) | (simp; omega))) | (with_reducible refine' Blk.set4_2 ?_ ?hb; case hb => (first | omega | (simp; done) | (simp; omega))) | (with_reducible refine' Blk.set4_3 ?_ ?hb; case hb => (first | omega | (simp; done) | (simp; omega))) | (with_reducible refine' Blk.set7_0 ?_ ?hb; case hb => (first | omega | (simp; done) | (simp; omega))) | (with_reducible refine' Blk.set7_1 ?_ ?hb; case hb => (first | omega | (simp; done) | (simp; omega))) | (with_reducible refine' Blk.set7_2 ?_ ?hb; case hb => (first | omega | (simp; done) | (simp; omega))) | (with_reducible refine' Blk.set7_3 ?_ ?hb; case hb => (first | omega | (simp; done) | (simp; omega))) | (with_reducible refine' Blk.set7_4 ?_ ?hb; case hb => (first | omega | (simp; done) | (simp; omega))) | (with_reducible refine' Blk.set7_5 ?_ ?hb; case hb => (first | omega | (simp; done) | (simp; omega))) | (with_reducible refine' Blk.set7_6 ?_ ?hb; case hb => (first | omega | (simp; done) | (simp; omega))) | (with_reducible refine Blk.far ?_ ?hb _; case hb => (first | omega | (simp; done) | (simp; omega))) | fail))
      · (repeat' (first | (with_reducible exact HR.out) | (with_reducible refine Blk.drewN ?_ _) | (with_reducible refine Blk.drew ?_) | (with_reducible refine Blk.new1 ?hb; case hb => (first | omega | (simp; done) | (simp; omega))) | (with_reducible refine Blk.alloc ?_ _) | (with_reducible refine' Blk.set3_0 ?_ ?hb; case hb => (first | omega | (simp; done) | (simp; omega))) | (with_reducible refine' Blk.set3_1 ?_ ?hb; case hb => (first | omega | (simp; done) | (simp; omega))) | (with_reducible refine' Blk.set3_2 ?_ ?hb; case hb => (first | omega | (simp; done) | (simp; omega))) | (with_reducible refine' Blk.set4_0 ?_ ?hb; case hb => (first | omega | (simp; done) | (simp; omega))) | (with_reducible refine' Blk.set4_1 ?_ ?hb; case hb => (first | omega | (simp; done) | (simp; omega))) | (with_reducible refine' Blk.set4_2 ?_ ?hb; case hb => (first | omega | (simp; done) | (simp; omega))) | (with_reducible refine' Blk.set4_3 ?_ ?hb; case hb => (first | omega | (simp; done) | (simp; omega))) | (with_reducible refine' Blk.set7_0 ?_ ?hb; case hb => (first | omega | (simp; done) | (simp; omega))) | (with_reducible refine' Blk.set7_1 ?_ ?hb; case hb => (first | omega | (simp; done) | (simp; omega))) | (with_reducible refine' Blk.set7_2 ?_ ?hb; case hb => (first | omega | (simp; done) | (simp; omega))) | (with_reducible refine' Blk.set7_3 ?_ ?hb; case hb => (first | omega | (simp; done) | (simp; omega))) | (with_reducible refine' Blk.set7_4 ?_ ?hb; case hb => (first | omega | (simp; done) | (simp; omega))) | (with_reducible refine' Blk.set7_5 ?_ ?hb; case hb => (first | omega | (simp; done) | (simp; omega))) | (with_reducible refine' Blk.set7_6 ?_ ?hb; case hb => (first | omega | (simp; done) | (simp; omega))) | (with_reducible refine Blk.far ?_ ?hb _; case hb => (first | omega | (simp; done) | (simp; omega))) | fail))
      · (repeat' (first | (with_reducible exact HP.out) | (with_reducible refine Blk.drewN ?_ _) | (with_reducible refine Blk.drew ?_) | (with_reducible refine Blk.new1 ?hb; case hb => (first | omega | (simp; done) | (simp; omega))) | (with_reducible refine Blk.alloc ?_ _) | (with_reducible refine' Blk.set3_0 ?_ ?hb; case hb => (first | omega | (simp; done) | (simp; omega))) | (with_reducible refine' Blk.set3_1 ?_ ?hb; case hb => (first | omega | (simp; done) | (simp; omega))) | (with_reducible refine' Blk.set3_2 ?_ ?hb; case hb => (first | omega | (simp; done) | (simp; omega))) | (with_reducible refine' Blk.set4_0 ?_ ?hb; case hb => (first | omega | (simp; done) | (simp; omega))) | (with_reducible refine' Blk.set4_1 ?_ ?hb; case hb => (first | omega | (simp; done) | (simp; omega))) | (with_reducible refine' Blk.set4_2 ?_ ?hb; case hb => (first | omega | (simp; done) | (simp; omega))) | (with_reducible refine' Blk.set4_3 ?_ ?hb; case hb => (first | omega | (simp; done) | (simp; omega))) | (with_reducible refine' Blk.set7_0 ?_ ?hb; case hb => (first | omega | (simp; done) | (simp; omega))) | (with_reducible refine' Blk.set7_1 ?_ ?hb; case hb => (first | omega | (simp; done) | (simp; omega))) | (with_reducible refine' Blk.set7_2 ?_ ?hb; case hb => (first | omega | (simp; done) | (simp; omega))) | (with_reducible refine' Blk.set7_3 ?_ ?hb; case hb => (first | omega | (simp; done) | (simp; omega))) | (with_reducible refine' Blk.set7_4 ?_ ?hb; case hb => (first | omega | (simp; done) | (simp; omega))) | (with_reducible refine' Blk.set7_5 ?_ ?hb; case hb => (first | omega | (simp; done) | (simp; omega))) | (with_reducible refine' Blk.set7_6 ?_ ?hb; case hb => (first | omega | (simp; done) | (simp; omega))) | (with_reducible refine Blk.far ?_ ?hb _; case hb => (first | omega | (simp; done) | (simp; omega))) | fail))
      · (repeat' (first | with_reducible exact B0.out | with_reducible exact Below.refl _ _ | with_reducible refine below_drew1 ?_ | with_reducible refine below_drewN ?_ _ | with_reducible refine Below.alloc ?_ ?_ _ | with_reducible refine Below.setCell ?_ ?_ _ | omega | (simp; done) | (simp; omega)))
  case rest =>
    obtain ⟨g, rfl, hg, hB, hR, hP, hBel⟩ := hcut
    have hz := hB.lt
    have B2 := Lib.hid hBel
    obtain ⟨⟨p0, p1, p2, p3, p4, p5, p6⟩, k0, k1, k2, k3, k4, k5, k6⟩ := hB.get7
    obtain ⟨⟨u0, u1, u2⟩, -⟩ := hP.get3n
    obtain ⟨⟨c0, c1, c2, c3, c4, c5, c6⟩, f0, f1, f2, f3, f4, f5, f6⟩ := hR.get7
    have hne : w.heap.size ≠ g := by omega
    have hne1 : w.heap.size + 1 ≠ g := by omega
    have hne2 : g ≠ w.heap.size := by omega
    have hne3 : g ≠ w.heap.size + 1 := by omega
    have hlt1 : w.heap.size + 1 < wc.heap.size := by omega
    clear hB hR hP hBel
    go_wp2_with fail
    refine (CD.out _).mono ?_
    rintro e w5 ⟨rfl, h5⟩
    obtain ⟨kc, kf⟩ := bcell h5
    have hz5 := h5.size
    have B5 := Lib.hid (below_step (B := w.heap.size) (w0 := w) (by (repeat' (first | with_reducible exact B2.out | with_reducible exact Below.refl _ _ | with_reducible refine below_drew1 ?_ | with_reducible refine below_drewN ?_ _ | with_reducible refine Below.alloc ?_ ?_ _ | with_reducible refine Below.setCell ?_ ?_ _ | omega | (simp; done) | (simp; omega)))) (by have := B2.out.size; (first | omega | (simp; done) | (simp; omega))) h5)
    clear h5
    simp at hz5
    cases v with
    | true =>
      go_wp2
      exact bodyPost_ret (v := dgYes f s) (by simp [dgYes, results, Try.results27, go_sem, kc, hne, hne1, hne2, hne3, hlt1, hz, c0, c1, c2, c3, c4, c5, c6]) rfl ⟨rfl, by (repeat' (first | with_reducible exact B5.out | with_reducible exact Below.refl _ _ | with_reducible refine below_drew1 ?_ | with_reducible refine below_drewN ?_ _ | with_reducible refine Below.alloc ?_ ?_ _ | with_reducible refine Below.setCell ?_ ?_ _ | omega | (simp; done) | (simp; omega)))⟩
    | false =>
      go_wp2
      exact bodyPost_ret (v := dataNo) (by simp [dataNo, results, Try.results27, go_sem, kc, hne, hne1, hne2, hne3, hlt1, hz, c0, c1, c2, c3, c4, c5, c6]) rfl ⟨rfl, by (repeat' (first | with_reducible exact B5.out | with_reducible exact Below.refl _ _ | with_reducible refine below_drew1 ?_ | with_reducible refine below_drewN ?_ _ | with_reducible refine Below.alloc ?_ ?_ _ | with_reducible refine Below.setCell ?_ ?_ _ | omega | (simp; done) | (simp; omega)))⟩

theorem c_sDataGet (k f : Int) (s : ByteArray) (w : World) (hs : s.size ≤ 2000000) :
    Calls Try.prog 27 #[.agg #[.int .i64 k, .int .i64 f, .string s]] w fun e w' => e = .returned (dgV k f s) ∧ Below w.heap.size w w' := by
  cases hh : dgHead k f s with
  | false =>
    rw [dgV_no (show dgOk k f s = false by unfold dgOk; rw [hh]; rfl)]
    exact c_sDataGet_head k f s w (by unfold maxLen; omega) hh
  | true =>
    obtain ⟨rfl, h1, h2, h3⟩ := dgHead_yes hh
    have := c_sDataGet_in f s w h1 h2 h3 hs (dgIn s) rfl
    cases hv : dgIn s with
    | false =>
      rw [dgV_no (show dgOk 0 f s = false by unfold dgOk; rw [hh, hv]; rfl)]
      rw [hv] at this
      exact this
    | true =>
      rw [dgV_yes (show dgOk 0 f s = true by unfold dgOk; rw [hh, hv]; rfl)]
      rw [hv] at this
      exact this
end Go.Proofs.Ytegjbhngkhdcfaa
