/-
  Reading a part: the program's function.
-/
import Derived.Test.YtegjbhngkhdcfaaData
namespace Go.Proofs.Ytegjbhngkhdcfaa
set_option linter.unusedVariables false
set_option linter.unusedSimpArgs false
open Go.RowKit

def fL (f : Int) : Bool := decide (f % 2 = 1)
def fF (f : Int) : Bool := decide (f / 2 % 2 = 1)
def fO (f : Int) : Bool := decide (f / 4 = 1)
def dgHead (k f : Int) (s : ByteArray) : Bool := decide (k = 0 ∧ 0 ≤ f ∧ f ≤ 7 ∧ 6 ≤ s.size)
def dgIn (s : ByteArray) : Bool := dataOkV (wdAt s 0) (wdAt s 2) (wdAt s 4) (s.extract 6 s.size)
def dgOk (k f : Int) (s : ByteArray) : Bool := dgHead k f s && dgIn s
def dataNo : Value := .tuple #[.agg #[.int .i64 0, .int .i64 0, .int .i64 0, .bool false, .bool false, .bool false, .string ⟨#[]⟩], .bool false]
def dgYes (f : Int) (s : ByteArray) : Value := .tuple #[.agg #[.int .i64 (wdAt s 0), .int .i64 (wdAt s 2), .int .i64 (wdAt s 4), .bool (fF f), .bool (fL f), .bool (fO f), .string (s.extract 6 s.size)], .bool true]
/-- What DataGet gives. -/
def dgV (k f : Int) (s : ByteArray) : Value := bif dgOk k f s then dgYes f s else dataNo
theorem dgV_no {k f : Int} {s : ByteArray} (h : dgOk k f s = false) : dgV k f s = dataNo := by unfold dgV; rw [h]; rfl
theorem dgV_yes {k f : Int} {s : ByteArray} (h : dgOk k f s = true) : dgV k f s = dgYes f s := by unfold dgV; rw [h]; rfl
theorem dgHead_no {k f : Int} {s : ByteArray} (h : dgHead k f s = false) : k ≠ 0 ∨ (k = 0 ∧ f < 0) ∨ (k = 0 ∧ 0 ≤ f ∧ 7 < f) ∨ (k = 0 ∧ 0 ≤ f ∧ f ≤ 7 ∧ s.size < 6) := by
  unfold dgHead at h; simp at h; omega
theorem dgHead_yes {k f : Int} {s : ByteArray} (h : dgHead k f s = true) : k = 0 ∧ 0 ≤ f ∧ f ≤ 7 ∧ 6 ≤ s.size := by
  unfold dgHead at h; simpa using h
theorem and2 (f : Int) (h : 0 ≤ f) (h1 : f ≤ 7) : (bits .and .i64 f 2 != 0) = fF f ∧ (bits .and .i64 f 1 != 0) = fL f ∧ (bits .and .i64 f 4 != 0) = fO f := by
  rcases (show f = 0 ∨ f = 1 ∨ f = 2 ∨ f = 3 ∨ f = 4 ∨ f = 5 ∨ f = 6 ∨ f = 7 by omega) with rfl | rfl | rfl | rfl | rfl | rfl | rfl | rfl <;> exact ⟨by decide, by decide, by decide⟩

theorem c_DataGet_head (k f : Int) (s : ByteArray) (w : World) (hs : s.size ≤ maxLen) (h : dgHead k f s = false) :
    Calls Try.prog 28 #[.agg #[.int .i64 k, .int .i64 f, .string s]] w fun e w' => e = .returned dataNo ∧ Below w.heap.size w w' := by
  unfold maxLen at hs
  have B0 := Lib.hid (Below.refl w.heap.size w)
  rcases dgHead_no h with h1 | ⟨h1, h2⟩ | ⟨h1, h2, h3⟩ | ⟨h1, h2, h3, h4⟩
  · clear h
    have k1 : (k != 0) = true := by simp; omega
    go_enter Try.func28, Try.ntmps28
    go_wp2
    exact bodyPost_ret (v := dataNo) (by simp [dataNo, results, Try.results28, go_sem]) rfl ⟨rfl, by (repeat' (first | with_reducible exact B0.out | with_reducible exact Below.refl _ _ | with_reducible refine below_drew1 ?_ | with_reducible refine below_drewN ?_ _ | with_reducible refine Below.alloc ?_ ?_ _ | with_reducible refine Below.setCell ?_ ?_ _ | omega | (simp; done) | (simp; omega)))⟩
  · subst h1
    clear h
    go_enter Try.func28, Try.ntmps28
    go_wp2
    exact bodyPost_ret (v := dataNo) (by simp [dataNo, results, Try.results28, go_sem]) rfl ⟨rfl, by (repeat' (first | with_reducible exact B0.out | with_reducible exact Below.refl _ _ | with_reducible refine below_drew1 ?_ | with_reducible refine below_drewN ?_ _ | with_reducible refine Below.alloc ?_ ?_ _ | with_reducible refine Below.setCell ?_ ?_ _ | omega | (simp; done) | (simp; omega)))⟩
  · subst h1
    clear h
    go_enter Try.func28, Try.ntmps28
    go_wp2
    exact bodyPost_ret (v := dataNo) (by simp [dataNo, results, Try.results28, go_sem]) rfl ⟨rfl, by (repeat' (first | with_reducible exact B0.out | with_reducible exact Below.refl _ _ | with_reducible refine below_drew1 ?_ | with_reducible refine below_drewN ?_ _ | with_reducible refine Below.alloc ?_ ?_ _ | with_reducible refine Below.setCell ?_ ?_ _ | omega | (simp; done) | (simp; omega)))⟩
  · subst h1
    clear h
    have h5 : (s.size : Int) < 6 := by omega
    go_enter Try.func28, Try.ntmps28
    go_wp2
    exact bodyPost_ret (v := dataNo) (by simp [dataNo, results, Try.results28, go_sem]) rfl ⟨rfl, by (repeat' (first | with_reducible exact B0.out | with_reducible exact Below.refl _ _ | with_reducible refine below_drew1 ?_ | with_reducible refine below_drewN ?_ _ | with_reducible refine Below.alloc ?_ ?_ _ | with_reducible refine Below.setCell ?_ ?_ _ | omega | (simp; done) | (simp; omega)))⟩

theorem dw0 (s : ByteArray) (w : World) (h : 6 ≤ s.size) (hs : s.size ≤ maxLen) : Calls Try.prog 44 #[.string s, .int .i64 0] w fun e w' => e = .returned (.tuple #[.int .i64 (wdAt s 0), .bool true]) ∧ ∃ n, w.drewN n = w' := c_WordGet s 0 w (by omega) hs
theorem dw2 (s : ByteArray) (w : World) (h : 6 ≤ s.size) (hs : s.size ≤ maxLen) : Calls Try.prog 44 #[.string s, .int .i64 2] w fun e w' => e = .returned (.tuple #[.int .i64 (wdAt s 2), .bool true]) ∧ ∃ n, w.drewN n = w' := c_WordGet s 2 w (by omega) hs
theorem dw4 (s : ByteArray) (w : World) (h : 6 ≤ s.size) (hs : s.size ≤ maxLen) : Calls Try.prog 44 #[.string s, .int .i64 4] w fun e w' => e = .returned (.tuple #[.int .i64 (wdAt s 4), .bool true]) ∧ ∃ n, w.drewN n = w' := c_WordGet s 4 w (by omega) hs

set_option maxRecDepth 100000 in
set_option maxHeartbeats 4000000 in
theorem c_DataGet_in (f : Int) (s : ByteArray) (w : World) (hf : 0 ≤ f) (hf1 : f ≤ 7) (hs : 6 ≤ s.size) (hsm : s.size ≤ 2000000) (v : Bool) (hv : dgIn s = v) :
    Calls Try.prog 28 #[.agg #[.int .i64 0, .int .i64 f, .string s]] w fun e w' => e = .returned (bif v then dgYes f s else dataNo) ∧ Below w.heap.size w w' := by
  have q1 : (6 : Int) ≤ (s.size : Int) := by omega
  obtain ⟨e2, e1, e4⟩ := and2 f hf hf1
  have cd := fun W => c_dataOk (wdAt s 0) (wdAt s 2) (wdAt s 4) (fF f) (fL f) (fO f) (s.extract 6 s.size) W (by rw [ByteArray.size_extract]; unfold maxLen; omega)
  rw [show dataOkV (wdAt s 0) (wdAt s 2) (wdAt s 4) (s.extract 6 s.size) = v from hv] at cd
  have CD := Lib.hid cd
  have B0 := Lib.hid (Below.refl w.heap.size w)
  clear hv cd
  have hP := (Blk.new w 24 #[.int .i64 0, .int .i64 f, .string s]).alloc (.cells #[.int .i64 0, .int .i64 0, .int .i64 0, .bool false, .bool false, .bool false, .string ⟨#[]⟩] 43)
  have hl1 := fun (W : World) (hW : Below (w.heap.size + 2) ((w.alloc (.cells #[.int .i64 0, .int .i64 f, .string s] 24)).alloc (.cells #[.int .i64 0, .int .i64 0, .int .i64 0, .bool false, .bool false, .bool false, .string ⟨#[]⟩] 43)) W) => show W.cell? ⟨w.heap.size, 1, none⟩ = some (.int .i64 f) from (hP.below hW (by omega)).cell 1
  have hl2 := fun (W : World) (hW : Below (w.heap.size + 2) ((w.alloc (.cells #[.int .i64 0, .int .i64 f, .string s] 24)).alloc (.cells #[.int .i64 0, .int .i64 0, .int .i64 0, .bool false, .bool false, .bool false, .string ⟨#[]⟩] 43)) W) => show W.cell? ⟨w.heap.size, 2, none⟩ = some (.string s) from (hP.below hW (by omega)).cell 2
  clear hP
  go_enter Try.func28, Try.ntmps28
  go_wp2_with fail
  go_region_held3 (fun w' => Below (w.heap.size + 2) ((w.alloc (.cells #[.int .i64 0, .int .i64 f, .string s] 24)).alloc (.cells #[.int .i64 0, .int .i64 0, .int .i64 0, .bool false, .bool false, .bool false, .string ⟨#[]⟩] 43)) w')
    ((repeat' (first | (with_reducible assumption) | with_reducible exact Below.refl _ _ | with_reducible refine below_drew1 ?_ | with_reducible refine below_drewN ?_ _ | with_reducible refine Below.alloc ?_ ?_ _ | with_reducible refine Below.setCell ?_ ?_ _ | omega | (simp; done) | (simp; omega))))
    (fail)
  clear hl1 hl2
  go_wp2_with fail
  refine (dw0 s _ hs (by unfold maxLen; omega)).mono ?_
  rintro e w1 ⟨rfl, n1, rfl⟩
  go_wp2_with fail
  refine (dw2 s _ hs (by unfold maxLen; omega)).mono ?_
  rintro e w2 ⟨rfl, n2, rfl⟩
  go_wp2_with fail
  refine (dw4 s _ hs (by unfold maxLen; omega)).mono ?_
  rintro e w3 ⟨rfl, n3, rfl⟩
  go_wp2_with fail
  refine (CD.out _).mono ?_
  rintro e w5 ⟨rfl, h5⟩
  obtain ⟨kc, kf⟩ := bcell h5
  have hz5 := h5.size
  have B5 := Lib.hid (below_step (B := w.heap.size) (w0 := w) (by (repeat' (first | with_reducible exact B0.out | with_reducible exact Below.refl _ _ | with_reducible refine below_drew1 ?_ | with_reducible refine below_drewN ?_ _ | with_reducible refine Below.alloc ?_ ?_ _ | with_reducible refine Below.setCell ?_ ?_ _ | omega | (simp; done) | (simp; omega)))) (by first | omega | (simp; done) | (simp; omega)) h5)
  clear h5
  simp at hz5
  cases v with
  | true =>
    go_wp2
    exact bodyPost_ret (v := dgYes f s) (by simp [dgYes, results, Try.results28, go_sem, kc]) rfl ⟨rfl, by (repeat' (first | with_reducible exact B5.out | with_reducible exact Below.refl _ _ | with_reducible refine below_drew1 ?_ | with_reducible refine below_drewN ?_ _ | with_reducible refine Below.alloc ?_ ?_ _ | with_reducible refine Below.setCell ?_ ?_ _ | omega | (simp; done) | (simp; omega)))⟩
  | false =>
    go_wp2
    exact bodyPost_ret (v := dataNo) (by simp [dataNo, results, Try.results28, go_sem, kc]) rfl ⟨rfl, by (repeat' (first | with_reducible exact B5.out | with_reducible exact Below.refl _ _ | with_reducible refine below_drew1 ?_ | with_reducible refine below_drewN ?_ _ | with_reducible refine Below.alloc ?_ ?_ _ | with_reducible refine Below.setCell ?_ ?_ _ | omega | (simp; done) | (simp; omega)))⟩

theorem c_DataGet (k f : Int) (s : ByteArray) (w : World) (hs : s.size ≤ 2000000) :
    Calls Try.prog 28 #[.agg #[.int .i64 k, .int .i64 f, .string s]] w fun e w' => e = .returned (dgV k f s) ∧ Below w.heap.size w w' := by
  cases hh : dgHead k f s with
  | false =>
    rw [dgV_no (show dgOk k f s = false by unfold dgOk; rw [hh]; rfl)]
    exact c_DataGet_head k f s w (by unfold maxLen; omega) hh
  | true =>
    obtain ⟨rfl, h1, h2, h3⟩ := dgHead_yes hh
    have := c_DataGet_in f s w h1 h2 h3 hs (dgIn s) rfl
    cases hv : dgIn s with
    | false =>
      rw [dgV_no (show dgOk 0 f s = false by unfold dgOk; rw [hh, hv]; rfl)]
      rw [hv] at this
      exact this
    | true =>
      rw [dgV_yes (show dgOk 0 f s = true by unfold dgOk; rw [hh, hv]; rfl)]
      rw [hv] at this
      exact this
end Go.Proofs.Ytegjbhngkhdcfaa
