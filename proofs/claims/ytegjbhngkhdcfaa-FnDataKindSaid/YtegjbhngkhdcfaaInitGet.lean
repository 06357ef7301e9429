/-
  Reading an init: the program's function.
-/
import Derived.Test.YtegjbhngkhdcfaaInit
namespace Go.Proofs.Ytegjbhngkhdcfaa
set_option linter.unusedVariables false
set_option linter.unusedSimpArgs false
open Go.RowKit

def igHead (k f : Int) (s : ByteArray) : Bool := decide ((k = 1 ∨ k = 2) ∧ f = 0 ∧ s.size = 10)
def igIn (s : ByteArray) : Bool := initOkV (lgAt s 0) (wdAt s 4) (wdAt s 6) (wdAt s 8)
def igOk (k f : Int) (s : ByteArray) : Bool := igHead k f s && igIn s
def igA (k f : Int) (s : ByteArray) : Int := bif igOk k f s then lgAt s 0 else 0
def igB (k f : Int) (s : ByteArray) : Int := bif igOk k f s then wdAt s 4 else 0
def igC (k f : Int) (s : ByteArray) : Int := bif igOk k f s then wdAt s 6 else 0
def igD (k f : Int) (s : ByteArray) : Int := bif igOk k f s then wdAt s 8 else 0
/-- What InitGet gives. -/
def igV (k f : Int) (s : ByteArray) : Value := .tuple #[.agg #[.int .i64 (igA k f s), .int .i64 (igB k f s), .int .i64 (igC k f s), .int .i64 (igD k f s)], .bool (igOk k f s)]
def initNo : Value := .tuple #[.agg #[.int .i64 0, .int .i64 0, .int .i64 0, .int .i64 0], .bool false]
def initYes (s : ByteArray) : Value := .tuple #[.agg #[.int .i64 (lgAt s 0), .int .i64 (wdAt s 4), .int .i64 (wdAt s 6), .int .i64 (wdAt s 8)], .bool true]
theorem igV_no {k f : Int} {s : ByteArray} (h : igOk k f s = false) : igV k f s = initNo := by unfold igV igA igB igC igD initNo; rw [h]; rfl
theorem igV_yes {k f : Int} {s : ByteArray} (h : igOk k f s = true) : igV k f s = initYes s := by unfold igV igA igB igC igD initYes; rw [h]; rfl
theorem igHead_no {k f : Int} {s : ByteArray} (h : igHead k f s = false) : (k ≠ 1 ∧ k ≠ 2) ∨ ((k = 1 ∨ k = 2) ∧ f ≠ 0) ∨ ((k = 1 ∨ k = 2) ∧ f = 0 ∧ s.size ≠ 10) := by
  unfold igHead at h; simp at h; omega
theorem igHead_yes {k f : Int} {s : ByteArray} (h : igHead k f s = true) : (k = 1 ∨ k = 2) ∧ f = 0 ∧ s.size = 10 := by
  unfold igHead at h; simpa using h

theorem c_InitGet_head (k f : Int) (s : ByteArray) (w : World) (hs : s.size ≤ maxLen) (h : igHead k f s = false) :
    Calls Try.prog 18 #[.agg #[.int .i64 k, .int .i64 f, .string s]] w fun e w' => e = .returned initNo ∧ Below w.heap.size w w' := by
  unfold maxLen at hs
  have B0 := Lib.hid (Below.refl w.heap.size w)
  rcases igHead_no h with ⟨h1, h2⟩ | ⟨h1 | h1, h2⟩ | ⟨h1 | h1, h2, h3⟩
  · clear h
    have k1 : (k != 1) = true := by simp; omega
    have k2 : (k != 2) = true := by simp; omega
    go_enter Try.func18, Try.ntmps18
    go_wp2
    exact bodyPost_ret (v := initNo) (by simp [initNo, results, Try.results18, go_sem]) rfl ⟨rfl, by (repeat' (first | with_reducible exact B0.out | with_reducible exact Below.refl _ _ | with_reducible refine below_drew1 ?_ | with_reducible refine below_drewN ?_ _ | with_reducible refine Below.alloc ?_ ?_ _ | with_reducible refine Below.setCell ?_ ?_ _ | omega | (simp; done) | (simp; omega)))⟩
  · subst h1
    clear h
    have k1 : (f != 0) = true := by simp; omega
    go_enter Try.func18, Try.ntmps18
    go_wp2
    exact bodyPost_ret (v := initNo) (by simp [initNo, results, Try.results18, go_sem]) rfl ⟨rfl, by (repeat' (first | with_reducible exact B0.out | with_reducible exact Below.refl _ _ | with_reducible refine below_drew1 ?_ | with_reducible refine below_drewN ?_ _ | with_reducible refine Below.alloc ?_ ?_ _ | with_reducible refine Below.setCell ?_ ?_ _ | omega | (simp; done) | (simp; omega)))⟩
  · subst h1
    clear h
    have k1 : (f != 0) = true := by simp; omega
    go_enter Try.func18, Try.ntmps18
    go_wp2
    exact bodyPost_ret (v := initNo) (by simp [initNo, results, Try.results18, go_sem]) rfl ⟨rfl, by (repeat' (first | with_reducible exact B0.out | with_reducible exact Below.refl _ _ | with_reducible refine below_drew1 ?_ | with_reducible refine below_drewN ?_ _ | with_reducible refine Below.alloc ?_ ?_ _ | with_reducible refine Below.setCell ?_ ?_ _ | omega | (simp; done) | (simp; omega)))⟩
  · subst h1 h2
    clear h
    have k1 : ((s.size : Int) != 10) = true := by simp; omega
    go_enter Try.func18, Try.ntmps18
    go_wp2
    exact bodyPost_ret (v := initNo) (by simp [initNo, results, Try.results18, go_sem]) rfl ⟨rfl, by (repeat' (first | with_reducible exact B0.out | with_reducible exact Below.refl _ _ | with_reducible refine below_drew1 ?_ | with_reducible refine below_drewN ?_ _ | with_reducible refine Below.alloc ?_ ?_ _ | with_reducible refine Below.setCell ?_ ?_ _ | omega | (simp; done) | (simp; omega)))⟩
  · subst h1 h2
    clear h
    have k1 : ((s.size : Int) != 10) = true := by simp; omega
    go_enter Try.func18, Try.ntmps18
    go_wp2
    exact bodyPost_ret (v := initNo) (by simp [initNo, results, Try.results18, go_sem]) rfl ⟨rfl, by (repeat' (first | with_reducible exact B0.out | with_reducible exact Below.refl _ _ | with_reducible refine below_drew1 ?_ | with_reducible refine below_drewN ?_ _ | with_reducible refine Below.alloc ?_ ?_ _ | with_reducible refine Below.setCell ?_ ?_ _ | omega | (simp; done) | (simp; omega)))⟩

theorem lg0 (s : ByteArray) (w : World) (h : 4 ≤ s.size) (hs : s.size ≤ 2000000) : Calls Try.prog 43 #[.string s, .int .i64 0] w fun e w' => e = .returned (.tuple #[.int .i64 (lgAt s 0), .bool true]) ∧ ∃ n, w.drewN n = w' := c_LongGet s 0 w (by omega) hs
theorem wd4 (s : ByteArray) (w : World) (h : 10 ≤ s.size) (hs : s.size ≤ maxLen) : Calls Try.prog 44 #[.string s, .int .i64 4] w fun e w' => e = .returned (.tuple #[.int .i64 (wdAt s 4), .bool true]) ∧ ∃ n, w.drewN n = w' := c_WordGet s 4 w (by omega) hs
theorem wd6 (s : ByteArray) (w : World) (h : 10 ≤ s.size) (hs : s.size ≤ maxLen) : Calls Try.prog 44 #[.string s, .int .i64 6] w fun e w' => e = .returned (.tuple #[.int .i64 (wdAt s 6), .bool true]) ∧ ∃ n, w.drewN n = w' := c_WordGet s 6 w (by omega) hs
theorem wd8 (s : ByteArray) (w : World) (h : 10 ≤ s.size) (hs : s.size ≤ maxLen) : Calls Try.prog 44 #[.string s, .int .i64 8] w fun e w' => e = .returned (.tuple #[.int .i64 (wdAt s 8), .bool true]) ∧ ∃ n, w.drewN n = w' := c_WordGet s 8 w (by omega) hs

set_option maxHeartbeats 4000000 in
theorem c_InitGet_in (k : Int) (s : ByteArray) (w : World) (h1 : k = 1 ∨ k = 2) (hs : s.size = 10) (v : Bool) (hv : igIn s = v) :
    Calls Try.prog 18 #[.agg #[.int .i64 k, .int .i64 0, .string s]] w fun e w' => e = .returned (bif v then initYes s else initNo) ∧ Below w.heap.size w w' := by
  have k1 : ((s.size : Int) != 10) = false := by simp; omega
  have s4 : 4 ≤ s.size := by omega
  have s10 : 10 ≤ s.size := by omega
  have sm : s.size ≤ 2000000 := by omega
  have sx : s.size ≤ maxLen := by unfold maxLen; omega
  have HV := Lib.hid hv
  have B0 := Lib.hid (Below.refl w.heap.size w)
  clear hs hv
  rcases h1 with h1 | h1
  all_goals
    subst h1
    go_enter Try.func18, Try.ntmps18
    go_wp2_with fail
    refine (lg0 s _ s4 sm).mono ?_
    rintro e w1 ⟨rfl, n1, rfl⟩
    go_wp2_with fail
    refine (wd4 s _ s10 sx).mono ?_
    rintro e w2 ⟨rfl, n2, rfl⟩
    go_wp2_with fail
    refine (wd6 s _ s10 sx).mono ?_
    rintro e w3 ⟨rfl, n3, rfl⟩
    go_wp2_with fail
    refine (wd8 s _ s10 sx).mono ?_
    rintro e w4 ⟨rfl, n4, rfl⟩
    go_wp2_with fail
    refine (c_initOk _ _ _ _ _).mono ?_
    rw [show initOkV (lgAt s 0) (wdAt s 4) (wdAt s 6) (wdAt s 8) = v from HV.out]
    rintro e w5 ⟨rfl, h5⟩
    obtain ⟨kc, kf⟩ := bcell h5
    have hz5 := h5.size
    have B5 := Lib.hid (below_step (B := w.heap.size) (w0 := w) (by (repeat' (first | with_reducible exact B0.out | with_reducible exact Below.refl _ _ | with_reducible refine below_drew1 ?_ | with_reducible refine below_drewN ?_ _ | with_reducible refine Below.alloc ?_ ?_ _ | with_reducible refine Below.setCell ?_ ?_ _ | omega | (simp; done) | (simp; omega)))) (by simp <;> omega) h5)
    clear h5
    simp at hz5
    cases v with
    | true =>
      go_wp2
      exact bodyPost_ret (v := initYes s) (by simp [initYes, results, Try.results18, go_sem, kc]) rfl ⟨rfl, by (repeat' (first | with_reducible exact B5.out | with_reducible exact Below.refl _ _ | with_reducible refine below_drew1 ?_ | with_reducible refine below_drewN ?_ _ | with_reducible refine Below.alloc ?_ ?_ _ | with_reducible refine Below.setCell ?_ ?_ _ | omega | (simp; done) | (simp; omega)))⟩
    | false =>
      go_wp2
      exact bodyPost_ret (v := initNo) (by simp [initNo, results, Try.results18, go_sem, kc]) rfl ⟨rfl, by (repeat' (first | with_reducible exact B5.out | with_reducible exact Below.refl _ _ | with_reducible refine below_drew1 ?_ | with_reducible refine below_drewN ?_ _ | with_reducible refine Below.alloc ?_ ?_ _ | with_reducible refine Below.setCell ?_ ?_ _ | omega | (simp; done) | (simp; omega)))⟩

theorem c_InitGet (k f : Int) (s : ByteArray) (w : World) (hs : s.size ≤ maxLen) :
    Calls Try.prog 18 #[.agg #[.int .i64 k, .int .i64 f, .string s]] w fun e w' => e = .returned (igV k f s) ∧ Below w.heap.size w w' := by
  cases hh : igHead k f s with
  | false =>
    rw [igV_no (show igOk k f s = false by unfold igOk; rw [hh]; rfl)]
    exact c_InitGet_head k f s w hs hh
  | true =>
    obtain ⟨h1, rfl, h3⟩ := igHead_yes hh
    have := c_InitGet_in k s w h1 h3 (igIn s) rfl
    cases hv : igIn s with
    | false =>
      rw [igV_no (show igOk k 0 s = false by unfold igOk; rw [hh, hv]; rfl)]
      rw [hv] at this
      exact this
    | true =>
      rw [igV_yes (show igOk k 0 s = true by unfold igOk; rw [hh, hv]; rfl)]
      rw [hv] at this
      exact this
end Go.Proofs.Ytegjbhngkhdcfaa
