/-
  Writing a part of a message: the program's and the reference's functions.
-/
import Derived.Test.YtegjbhngkhdcfaaWordX
import Derived.Test.YtegjbhngkhdcfaaSerOk
import Derived.Test.YtegjbhngkhdcfaaBytes
import Derived.Deep.RegionHeld3
namespace Go.Proofs.Ytegjbhngkhdcfaa
set_option linter.unusedVariables false
set_option linter.unusedSimpArgs false
open Go.RowKit

def dataOkV (a b c : Int) (s : ByteArray) : Bool := serOk a && serOk b && serOk c && decide (1 ≤ s.size ∧ s.size ≤ 20)
theorem dataOk_yes {a b c : Int} {s : ByteArray} (h : dataOkV a b c s = true) : 0 ≤ a ∧ a ≤ 65535 ∧ 0 ≤ b ∧ b ≤ 65535 ∧ 0 ≤ c ∧ c ≤ 65535 ∧ 1 ≤ s.size ∧ s.size ≤ 20 := by
  unfold dataOkV serOk at h; simp at h; omega
/-- The seven cells of a part. -/
def dcs (a b c : Int) (f l o : Bool) (s : ByteArray) : Array Value := #[.int .i64 a, .int .i64 b, .int .i64 c, .bool f, .bool l, .bool o, .string s]
theorem c_dataOk (a b c : Int) (f l o : Bool) (s : ByteArray) (w : World) (hs : s.size ≤ maxLen) : Calls Try.prog 54 #[.agg #[.int .i64 a, .int .i64 b, .int .i64 c, .bool f, .bool l, .bool o, .string s]] w fun e w' => e = .returned (.bool (dataOkV a b c s)) ∧ Below w.heap.size w w' := by
  unfold maxLen at hs
  have hd : ∃ v, v = dataOkV a b c s := ⟨_, rfl⟩
  obtain ⟨v, hv⟩ := hd
  rw [← hv]
  have HV := Lib.hid hv
  clear hv
  go_enter Try.func54, Try.ntmps54
  go_wp2_with (go_at_call 56; refine (c_serialOk _ _).mono ?_; rintro e w' ⟨rfl, rfl⟩)
  all_goals go_ret
  all_goals exact ⟨ret_bool (by rw [HV.out]; unfold dataOkV; grind), (Below.refl _ _).alloc (Nat.le_refl _) _⟩
theorem c_l12Data (a b c : Int) (f l o : Bool) (s : ByteArray) (w : World) (hs : s.size ≤ maxLen) : Calls Try.prog 53 #[.agg #[.int .i64 a, .int .i64 b, .int .i64 c, .bool f, .bool l, .bool o, .string s]] w fun e w' => e = .returned (.bool (dataOkV a b c s)) ∧ Below w.heap.size w w' := by
  unfold maxLen at hs
  have hd : ∃ v, v = dataOkV a b c s := ⟨_, rfl⟩
  obtain ⟨v, hv⟩ := hd
  rw [← hv]
  have HV := Lib.hid hv
  clear hv
  go_enter Try.func53, Try.ntmps53
  go_wp2_with (first | (go_at_call 52; refine (c_l6In _ _ _ _).mono ?_; rintro e w' ⟨rfl, rfl⟩) | (go_at_call 63; refine (c_l3Ok _ _).mono ?_; rintro e w' ⟨rfl, rfl⟩))
  all_goals go_ret
  all_goals exact ⟨ret_bool (by rw [HV.out]; unfold dataOkV; simp only [inB, serOk] at *; grind), (Below.refl _ _).alloc (Nat.le_refl _) _⟩
theorem c_l12Bit (b : Bool) (n : Int) (w : World) : Calls Try.prog 55 #[.bool b, .int .i64 n] w fun e w' => e = .returned (.int .i64 (bif b then n else 0)) ∧ w = w' := by
  cases b <;>
  · go_enter Try.func55, Try.ntmps55
    go_wp2
    go_ret
    exact ⟨rfl, rfl⟩
/-- A part's flags. -/
def flagsV (f l o : Bool) : Int := (bif l then 1 else 0) + (bif f then 2 else 0) + (bif o then 4 else 0)
theorem flagsV_range (f l o : Bool) : 0 ≤ flagsV f l o ∧ flagsV f l o ≤ 7 := by cases f <;> cases l <;> cases o <;> decide
/-- The body of a part's chunk. -/
def dataBody (a b c : Int) (s : ByteArray) : ByteArray := wordsV [a, b, c] ++ s
theorem dataBody_size (a b c : Int) (s : ByteArray) : (dataBody a b c s).size = 6 + s.size := by unfold dataBody; rw [ByteArray.size_append, wordsV_size]; rfl
def chunkNo : Value := .tuple #[.agg #[.int .i64 0, .int .i64 0, .string ⟨#[]⟩], .bool false]
theorem c_DataPut_no (a b c : Int) (f l o : Bool) (s : ByteArray) (w : World) (hs : s.size ≤ maxLen) (h : dataOkV a b c s = false) :
    Calls Try.prog 33 #[.agg #[.int .i64 a, .int .i64 b, .int .i64 c, .bool f, .bool l, .bool o, .string s]] w fun e w' => e = .returned chunkNo ∧ Below w.heap.size w w' := by
  have B0 := Lib.hid (Below.refl w.heap.size w)
  go_enter Try.func33, Try.ntmps33
  go_wp2_with fail
  refine (c_dataOk a b c f l o s _ hs).mono ?_
  rintro e w1 ⟨rfl, h1⟩
  obtain ⟨kc, kf⟩ := bcell h1
  have hz1 := h1.size
  have B1 := Lib.hid (below_step (B := w.heap.size) (w0 := w) (by (repeat' (first | with_reducible exact B0.out | with_reducible exact Below.refl _ _ | with_reducible refine below_drew1 ?_ | with_reducible refine below_drewN ?_ _ | with_reducible refine Below.alloc ?_ ?_ _ | with_reducible refine Below.setCell ?_ ?_ _ | omega | (simp; done) | (simp; omega)))) (by first | omega | (simp; done) | (simp; omega)) h1)
  clear h1
  simp at hz1
  go_wp2
  exact bodyPost_ret (v := chunkNo) (by simp [chunkNo, results, Try.results33, go_sem, kc]) rfl ⟨rfl, by (repeat' (first | with_reducible exact B1.out | with_reducible exact Below.refl _ _ | with_reducible refine below_drew1 ?_ | with_reducible refine below_drewN ?_ _ | with_reducible refine Below.alloc ?_ ?_ _ | with_reducible refine Below.setCell ?_ ?_ _ | omega | (simp; done) | (simp; omega)))⟩
theorem c_sDataPut_no (a b c : Int) (f l o : Bool) (s : ByteArray) (w : World) (hs : s.size ≤ maxLen) (h : dataOkV a b c s = false) :
    Calls Try.prog 31 #[.agg #[.int .i64 a, .int .i64 b, .int .i64 c, .bool f, .bool l, .bool o, .string s]] w fun e w' => e = .returned chunkNo ∧ Below w.heap.size w w' := by
  have B0 := Lib.hid (Below.refl w.heap.size w)
  go_enter Try.func31, Try.ntmps31
  go_wp2_with fail
  refine (c_l12Data a b c f l o s _ hs).mono ?_
  rintro e w1 ⟨rfl, h1⟩
  obtain ⟨kc, kf⟩ := bcell h1
  have hz1 := h1.size
  have B1 := Lib.hid (below_step (B := w.heap.size) (w0 := w) (by (repeat' (first | with_reducible exact B0.out | with_reducible exact Below.refl _ _ | with_reducible refine below_drew1 ?_ | with_reducible refine below_drewN ?_ _ | with_reducible refine Below.alloc ?_ ?_ _ | with_reducible refine Below.setCell ?_ ?_ _ | omega | (simp; done) | (simp; omega)))) (by first | omega | (simp; done) | (simp; omega)) h1)
  clear h1
  simp at hz1
  go_wp2
  exact bodyPost_ret (v := chunkNo) (by simp [chunkNo, results, Try.results31, go_sem, kc]) rfl ⟨rfl, by (repeat' (first | with_reducible exact B1.out | with_reducible exact Below.refl _ _ | with_reducible refine below_drew1 ?_ | with_reducible refine below_drewN ?_ _ | with_reducible refine Below.alloc ?_ ?_ _ | with_reducible refine Below.setCell ?_ ?_ _ | omega | (simp; done) | (simp; omega)))⟩
theorem dgetD3 (b c d : Int) (i : Nat) (h : i < 3) : (#[Value.int .i64 b, .int .i64 c, .int .i64 d] : Array Value)[i]? = some (.int .i64 (([b, c, d] : List Int).getD i 0)) := by
  match i, h with
  | 0, _ => rfl
  | 1, _ => rfl
  | 2, _ => rfl
theorem drange3 (b c d : Int) (hb : 0 ≤ b ∧ b ≤ 65535) (hc : 0 ≤ c ∧ c ≤ 65535) (hd : 0 ≤ d ∧ d ≤ 65535) (i : Nat) (h : i < 3) : 0 ≤ ([b, c, d] : List Int).getD i 0 ∧ ([b, c, d] : List Int).getD i 0 ≤ 65535 := by
  match i, h with
  | 0, _ => exact hb
  | 1, _ => exact hc
  | 2, _ => exact hd
/-- Three numbers in a new row. -/
theorem c_dwords3 (b c d : Int) (w : World) (n : Nat) (hn : w.heap.size = n) (hb : 0 ≤ b ∧ b ≤ 65535) (hc : 0 ≤ c ∧ c ≤ 65535) (hd : 0 ≤ d ∧ d ≤ 65535) :
    Calls Try.prog 49 #[.slice (some ⟨n, 0, none⟩) 3 3] (w.alloc (.cells #[.int .i64 b, .int .i64 c, .int .i64 d] 3)).drew fun e w' => e = .returned (.string (wordsV [b, c, d])) ∧ Below (w.alloc (.cells #[.int .i64 b, .int .i64 c, .int .i64 d] 3)).drew.heap.size (w.alloc (.cells #[.int .i64 b, .int .i64 c, .int .i64 d] 3)).drew w' := by
  subst hn
  exact c_words w.heap.size 3 [b, c, d] _ rfl (by omega) (fun i hi => (World.cell?_alloc_mark w _ _ (0, 0) i).trans (dgetD3 b c d i hi)) (fun i hi => drange3 b c d hb hc hd i hi) (by show w.heap.size < (w.alloc _).heap.size; simp)
def dataYes (a b c : Int) (f l o : Bool) (s : ByteArray) : Value := .tuple #[.agg #[.int .i64 0, .int .i64 (flagsV f l o), .string (dataBody a b c s)], .bool true]
set_option maxHeartbeats 4000000 in
theorem c_DataPut_yes (a b c : Int) (f l o : Bool) (s : ByteArray) (w : World) (h : dataOkV a b c s = true) :
    Calls Try.prog 33 #[.agg #[.int .i64 a, .int .i64 b, .int .i64 c, .bool f, .bool l, .bool o, .string s]] w fun e w' => e = .returned (dataYes a b c f l o s) ∧ Below w.heap.size w w' := by
  obtain ⟨ha, ha1, hb, hb1, hc, hc1, hd, hd1⟩ := dataOk_yes h
  have hsm : s.size ≤ maxLen := by unfold maxLen; omega
  have hz := wordsV_size [a, b, c]
  have hzl : (wordsV [a, b, c]).size ≤ 6 := by rw [hz]; simp
  have hzz : ¬ 9223372036854775807 < (wordsV [a, b, c]).size + s.size := by omega
  clear hz
  have B0 := Lib.hid (Below.refl w.heap.size w)
  cases f <;> cases l <;> cases o
  all_goals
    go_enter Try.func33, Try.ntmps33
    go_wp2_with fail
    refine (c_dataOk a b c _ _ _ s _ hsm).mono ?_
    rintro e w1 ⟨rfl, h1⟩
    have hP : Blk w1 w.heap.size 43 _ := Blk.below ((Blk.new w _ _).alloc _) h1 (by simp; omega)
    have hR : Blk w1 (w.heap.size + 1) 24 #[.int .i64 0, .int .i64 0, .string ⟨#[]⟩] := Blk.below (by simpa using Blk.new (w.alloc _) 24 _) h1 (by simp)
    have B1 := Lib.hid (below_step (B := w.heap.size) (w0 := w) (by (repeat' (first | with_reducible exact B0.out | with_reducible exact Below.refl _ _ | with_reducible refine below_drew1 ?_ | with_reducible refine below_drewN ?_ _ | with_reducible refine Below.alloc ?_ ?_ _ | with_reducible refine Below.setCell ?_ ?_ _ | omega | (simp; done) | (simp; omega)))) (by first | omega | (simp; done) | (simp; omega)) h1)
    have hz1 : w.heap.size + 1 < w1.heap.size := hR.lt
    obtain ⟨⟨p0, p1, p2, p3, p4, p5, p6⟩, -⟩ := hP.get7
    have hl0 := fun (W : World) (hW : Below (w.heap.size + 1) w1 W) => show W.cell? ⟨w.heap.size, 0, none⟩ = some (.int .i64 a) from (hP.below hW (Nat.lt_succ_self _)).cell 0
    have hl1 := fun (W : World) (hW : Below (w.heap.size + 1) w1 W) => show W.cell? ⟨w.heap.size, 1, none⟩ = some (.int .i64 b) from (hP.below hW (Nat.lt_succ_self _)).cell 1
    have hl2 := fun (W : World) (hW : Below (w.heap.size + 1) w1 W) => show W.cell? ⟨w.heap.size, 2, none⟩ = some (.int .i64 c) from (hP.below hW (Nat.lt_succ_self _)).cell 2
    have hl6 := fun (W : World) (hW : Below (w.heap.size + 1) w1 W) => show W.cell? ⟨w.heap.size, 6, none⟩ = some (.string s) from (hP.below hW (Nat.lt_succ_self _)).cell 6
    have HR := Lib.hid hR
    clear h1 hP hR
    go_wp2_with fail
    clear p0 p1 p2 p3 p4 p5 p6
    go_region_held3 (fun w' => Below (w.heap.size + 1) w1 w')
      ((repeat' (first | (with_reducible assumption) | with_reducible exact Below.refl _ _ | with_reducible refine below_drew1 ?_ | with_reducible refine below_drewN ?_ _ | with_reducible refine Below.alloc ?_ ?_ _ | with_reducible refine Below.setCell ?_ ?_ _ | omega | (simp; done) | (simp; omega))))
      ((go_at_call 49; refine (c_dwords3 a b c _ _ rfl ⟨ha, ha1⟩ ⟨hb, hb1⟩ ⟨hc, hc1⟩).mono ?_; rintro e w3 ⟨rfl, h3⟩; have hz3 : w1.heap.size + 1 ≤ w3.heap.size := (by have q := h3.size; (try simp at q); omega); have HS : Below (w.heap.size + 1) w1 w3 := below_step (B := w.heap.size + 1) (by (repeat' (first | (with_reducible assumption) | with_reducible exact Below.refl _ _ | with_reducible refine below_drew1 ?_ | with_reducible refine below_drewN ?_ _ | with_reducible refine Below.alloc ?_ ?_ _ | with_reducible refine Below.setCell ?_ ?_ _ | omega | (simp; done) | (simp; omega)))) (by first | omega | (simp; done) | (simp; omega)) h3; obtain ⟨r0, r1, r2, f0, f1, f2⟩ := (Blk.below ((HR.out.alloc _).drew) h3 (by first | omega | (simp; done) | (simp; omega))).get3; have B3 := Lib.hid (below_step (B := w.heap.size) (w0 := w) (by (repeat' (first | with_reducible exact B1.out | with_reducible exact Below.refl _ _ | with_reducible refine below_drew1 ?_ | with_reducible refine below_drewN ?_ _ | with_reducible refine Below.alloc ?_ ?_ _ | with_reducible refine Below.setCell ?_ ?_ _ | omega | (simp; done) | (simp; omega)))) (by first | omega | (simp; done) | (simp; omega)) h3); clear h3))
    all_goals go_wp2
    all_goals exact bodyPost_ret (v := dataYes a b c _ _ _ s) (by simp [dataYes, flagsV, dataBody, results, Try.results33, go_sem, r0, r1, r2]) rfl ⟨rfl, by (repeat' (first | with_reducible exact B3.out | with_reducible exact Below.refl _ _ | with_reducible refine below_drew1 ?_ | with_reducible refine below_drewN ?_ _ | with_reducible refine Below.alloc ?_ ?_ _ | with_reducible refine Below.setCell ?_ ?_ _ | omega | (simp; done) | (simp; omega)))⟩
set_option maxHeartbeats 4000000 in
theorem c_sDataPut_yes (a b c : Int) (f l o : Bool) (s : ByteArray) (w : World) (h : dataOkV a b c s = true) :
    Calls Try.prog 31 #[.agg #[.int .i64 a, .int .i64 b, .int .i64 c, .bool f, .bool l, .bool o, .string s]] w fun e w' => e = .returned (dataYes a b c f l o s) ∧ Below w.heap.size w w' := by
  obtain ⟨ha, ha1, hb, hb1, hc, hc1, hd, hd1⟩ := dataOk_yes h
  have hsm : s.size ≤ maxLen := by unfold maxLen; omega
  have z1 : (w2 a ++ w2 b).size = 4 := rfl
  have z2 : (w2 a ++ w2 b ++ w2 c).size = 6 := rfl
  have hzz : ¬ 9223372036854775807 < 6 + s.size := by omega
  have Z := Lib.hid (show w2 a ++ w2 b ++ w2 c ++ s = dataBody a b c s by unfold dataBody wordsV wordsV wordsV wordsV; simp only [app_empty, ByteArray.append_assoc])
  have Q := Lib.hid (show ((bif l then (1 : Int) else 0) + (bif f then 2 else 0)) + (bif o then 4 else 0) = flagsV f l o from rfl)
  have q1 : 0 ≤ (bif l then (1 : Int) else 0) ∧ (bif l then (1 : Int) else 0) ≤ 1 := by cases l <;> decide
  have q2 : 0 ≤ (bif f then (2 : Int) else 0) ∧ (bif f then (2 : Int) else 0) ≤ 2 := by cases f <;> decide
  have q3 : 0 ≤ (bif o then (4 : Int) else 0) ∧ (bif o then (4 : Int) else 0) ≤ 4 := by cases o <;> decide
  obtain ⟨q10, q11⟩ := q1
  obtain ⟨q20, q21⟩ := q2
  obtain ⟨q30, q31⟩ := q3
  have cb1 : ∀ W : World, Calls Try.prog 55 #[.bool l, .int .i64 1] W fun e w' => e = .returned (.int .i64 (bif l then 1 else 0)) ∧ W = w' := fun W => c_l12Bit l 1 W
  have cb2 : ∀ W : World, Calls Try.prog 55 #[.bool f, .int .i64 2] W fun e w' => e = .returned (.int .i64 (bif f then 2 else 0)) ∧ W = w' := fun W => c_l12Bit f 2 W
  have cb3 : ∀ W : World, Calls Try.prog 55 #[.bool o, .int .i64 4] W fun e w' => e = .returned (.int .i64 (bif o then 4 else 0)) ∧ W = w' := fun W => c_l12Bit o 4 W
  generalize (bif l then (1 : Int) else 0) = v1 at *
  generalize (bif f then (2 : Int) else 0) = v2 at *
  generalize (bif o then (4 : Int) else 0) = v3 at *
  have CB := Lib.hid (And.intro cb1 (And.intro cb2 cb3))
  clear cb1 cb2 cb3
  have B0 := Lib.hid (Below.refl w.heap.size w)
  have y1 : IntKind.i64.wrap (v1 + v2) = v1 + v2 := IntWalk.i64_in _ (by omega)
  have y2 : IntKind.i64.wrap (v1 + v2 + v3) = v1 + v2 + v3 := IntWalk.i64_in _ (by omega)
  go_enter Try.func31, Try.ntmps31
  go_wp2_with fail
  refine (c_l12Data a b c _ _ _ s _ hsm).mono ?_
  rintro e w1 ⟨rfl, h1⟩
  have hP : Blk w1 w.heap.size 43 (dcs a b c f l o s) := Blk.below ((Blk.new w _ _).alloc _) h1 (by simp; omega)
  have hR : Blk w1 (w.heap.size + 1) 24 #[.int .i64 0, .int .i64 0, .string ⟨#[]⟩] := Blk.below (by simpa using Blk.new (w.alloc _) 24 _) h1 (by simp)
  have B1 := Lib.hid (below_step (B := w.heap.size) (w0 := w) (by (repeat' (first | with_reducible exact B0.out | with_reducible exact Below.refl _ _ | with_reducible refine below_drew1 ?_ | with_reducible refine below_drewN ?_ _ | with_reducible refine Below.alloc ?_ ?_ _ | with_reducible refine Below.setCell ?_ ?_ _ | omega | (simp; done) | (simp; omega)))) (by first | omega | (simp; done) | (simp; omega)) h1)
  have hz1 : w.heap.size + 1 < w1.heap.size := hR.lt
  have hl0 := fun (W : World) (hW : Below (w.heap.size + 1) w1 W) => show W.cell? ⟨w.heap.size, 0, none⟩ = some (.int .i64 a) from (hP.below hW (Nat.lt_succ_self _)).cell 0
  have hl1 := fun (W : World) (hW : Below (w.heap.size + 1) w1 W) => show W.cell? ⟨w.heap.size, 1, none⟩ = some (.int .i64 b) from (hP.below hW (Nat.lt_succ_self _)).cell 1
  have hl2 := fun (W : World) (hW : Below (w.heap.size + 1) w1 W) => show W.cell? ⟨w.heap.size, 2, none⟩ = some (.int .i64 c) from (hP.below hW (Nat.lt_succ_self _)).cell 2
  have hl3 := fun (W : World) (hW : Below (w.heap.size + 1) w1 W) => show W.cell? ⟨w.heap.size, 3, none⟩ = some (.bool f) from (hP.below hW (Nat.lt_succ_self _)).cell 3
  have hl4 := fun (W : World) (hW : Below (w.heap.size + 1) w1 W) => show W.cell? ⟨w.heap.size, 4, none⟩ = some (.bool l) from (hP.below hW (Nat.lt_succ_self _)).cell 4
  have hl5 := fun (W : World) (hW : Below (w.heap.size + 1) w1 W) => show W.cell? ⟨w.heap.size, 5, none⟩ = some (.bool o) from (hP.below hW (Nat.lt_succ_self _)).cell 5
  have hl6 := fun (W : World) (hW : Below (w.heap.size + 1) w1 W) => show W.cell? ⟨w.heap.size, 6, none⟩ = some (.string s) from (hP.below hW (Nat.lt_succ_self _)).cell 6
  have HR := Lib.hid hR
  clear h1 hP hR
  go_wp2_with fail
  go_region_held3 (fun w' => Below (w.heap.size + 1) w1 w')
    ((repeat' (first | (with_reducible assumption) | with_reducible exact Below.refl _ _ | with_reducible refine below_drew1 ?_ | with_reducible refine below_drewN ?_ _ | with_reducible refine Below.alloc ?_ ?_ _ | with_reducible refine Below.setCell ?_ ?_ _ | omega | (simp; done) | (simp; omega))))
    (first | (go_at_call 55; refine (CB.out.1 _).mono ?_; rintro e w2 ⟨rfl, rfl⟩) | (go_at_call 55; refine (CB.out.2.1 _).mono ?_; rintro e w2 ⟨rfl, rfl⟩) | (go_at_call 55; refine (CB.out.2.2 _).mono ?_; rintro e w2 ⟨rfl, rfl⟩))
  rw [Q.out]
  obtain ⟨r0, r1, r2, f0, f1, f2⟩ := HR.out.get3
  obtain ⟨⟨l0, l1, l2, l3, l4, l5, l6, l7, l8, l9⟩, m0, m1, m2, m3, m4, m5, m6, m7, m8, m9⟩ := lts (show w.heap.size < w1.heap.size by omega)
  go_wp2_with fail
  go_region_held3 (fun w' => Below (w.heap.size + 1) w1 w')
    ((repeat' (first | (with_reducible assumption) | with_reducible exact Below.refl _ _ | with_reducible refine below_drew1 ?_ | with_reducible refine below_drewN ?_ _ | with_reducible refine Below.alloc ?_ ?_ _ | with_reducible refine Below.setCell ?_ ?_ _ | omega | (simp; done) | (simp; omega))))
    ((go_at_call 51; refine (c_l1WordX _ _ (by omega) (by omega)).mono ?_; rintro e w3 ⟨rfl, rfl⟩))
  go_wp2
  exact bodyPost_ret (v := dataYes a b c f l o s) (by simp [dataYes, results, Try.results31, go_sem, Z.out, hz1, l0, l1, l2, l3, l4, l5, l6, l7, l8, l9, r0, r1, r2, f0, f1, f2]) rfl ⟨rfl, by (repeat' (first | with_reducible exact B1.out | with_reducible exact Below.refl _ _ | with_reducible refine below_drew1 ?_ | with_reducible refine below_drewN ?_ _ | with_reducible refine Below.alloc ?_ ?_ _ | with_reducible refine Below.setCell ?_ ?_ _ | omega | (simp; done) | (simp; omega)))⟩
end Go.Proofs.Ytegjbhngkhdcfaa
