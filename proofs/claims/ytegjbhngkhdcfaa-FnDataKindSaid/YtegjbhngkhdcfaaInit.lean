/-
  Inits.
-/
import Derived.Test.YtegjbhngkhdcfaaWordX
import Derived.Test.YtegjbhngkhdcfaaSerOk
import Derived.Test.YtegjbhngkhdcfaaBytes
import Derived.Deep.RegionHeld3
namespace Go.Proofs.Ytegjbhngkhdcfaa
set_option linter.unusedVariables false
set_option linter.unusedSimpArgs false
open Go.RowKit

def initOkV (a b c d : Int) : Bool := decide (1 ≤ a ∧ a ≤ 4294967295) && serOk b && decide (1 ≤ c ∧ c ≤ 4) && serOk d
theorem c_initOk (a b c d : Int) (w : World) : Calls Try.prog 45 #[.agg #[.int .i64 a, .int .i64 b, .int .i64 c, .int .i64 d]] w fun e w' => e = .returned (.bool (initOkV a b c d)) ∧ Below w.heap.size w w' := by
  have hd : ∃ v, v = initOkV a b c d := ⟨_, rfl⟩
  obtain ⟨v, hv⟩ := hd
  rw [← hv]
  have HV := Lib.hid hv
  clear hv
  go_enter Try.func45, Try.ntmps45
  go_wp2_with (go_at_call 56; refine (c_serialOk _ _).mono ?_; rintro e w' ⟨rfl, rfl⟩)
  all_goals go_ret
  all_goals exact ⟨ret_bool (by rw [HV.out]; unfold initOkV; grind), (Below.refl _ _).alloc (Nat.le_refl _) _⟩
theorem c_l12Init (a b c d : Int) (w : World) : Calls Try.prog 47 #[.agg #[.int .i64 a, .int .i64 b, .int .i64 c, .int .i64 d]] w fun e w' => e = .returned (.bool (initOkV a b c d)) ∧ Below w.heap.size w w' := by
  have hd : ∃ v, v = initOkV a b c d := ⟨_, rfl⟩
  obtain ⟨v, hv⟩ := hd
  rw [← hv]
  have HV := Lib.hid hv
  clear hv
  go_enter Try.func47, Try.ntmps47
  go_wp2_with (first | (go_at_call 52; refine (c_l6In _ _ _ _).mono ?_; rintro e w' ⟨rfl, rfl⟩) | (go_at_call 63; refine (c_l3Ok _ _).mono ?_; rintro e w' ⟨rfl, rfl⟩))
  all_goals go_ret
  all_goals exact ⟨ret_bool (by rw [HV.out]; unfold initOkV; simp only [inB, serOk] at *; grind), (Below.refl _ _).alloc (Nat.le_refl _) _⟩
theorem initOk_yes {a b c d : Int} (h : initOkV a b c d = true) : 1 ≤ a ∧ a ≤ 4294967295 ∧ 0 ≤ b ∧ b ≤ 65535 ∧ 1 ≤ c ∧ c ≤ 4 ∧ 0 ≤ d ∧ d ≤ 65535 := by
  unfold initOkV serOk at h; simp at h; omega
/-- The body of an init's chunk. -/
def initBody (a b c d : Int) : ByteArray := w4 a ++ wordsV [b, c, d]
theorem initBody_size (a b c d : Int) : (initBody a b c d).size = 10 := by unfold initBody; rw [ByteArray.size_append, w4_size, wordsV_size]; rfl
/-- What InitPut gives. -/
def initPutV (a b c d : Int) (ans : Bool) : Value := bif initOkV a b c d then .tuple #[.agg #[.int .i64 (bif ans then 2 else 1), .int .i64 0, .string (initBody a b c d)], .bool true] else .tuple #[.agg #[.int .i64 0, .int .i64 0, .string ⟨#[]⟩], .bool false]
/-- What the new block holds does not matter below it. -/
theorem below_swap {B : Nat} {a w : World} {o o' : Obj} (h : Below B a (w.alloc o)) (hB : B ≤ w.heap.size) : Below B a (w.alloc o') :=
  ⟨h.os, h.tape, h.output, by simpa using h.size, fun k hk => (Below.heap_alloc w o' k (by omega)).trans ((Below.heap_alloc w o k (by omega)).symm.trans (h.block k hk))⟩
theorem box4 {w w' : World} {a b c d : Value} {t : TypeId} (hb : Below (w.alloc (.cells #[a, b, c, d] t)).heap.size (w.alloc (.cells #[a, b, c, d] t)) w') :
    w'.cell? ⟨w.heap.size, 0, none⟩ = some a ∧ w'.cell? ⟨w.heap.size, 1, none⟩ = some b ∧ w'.cell? ⟨w.heap.size, 2, none⟩ = some c ∧ w'.cell? ⟨w.heap.size, 3, none⟩ = some d ∧ w.heap.size < w'.heap.size := by
  have hB : Blk w' w.heap.size t #[a, b, c, d] := (Blk.new w t _).below hb (by simp)
  exact ⟨hB.cell 0, hB.cell 1, hB.cell 2, hB.cell 3, hB.lt⟩
set_option maxHeartbeats 1000000 in
theorem c_InitPut_no (a b c d : Int) (ans : Bool) (w : World) (h : initOkV a b c d = false) : Calls Try.prog 20 #[.agg #[.int .i64 a, .int .i64 b, .int .i64 c, .int .i64 d], .bool ans] w fun e w' => e = .returned (.tuple #[.agg #[.int .i64 0, .int .i64 0, .string ⟨#[]⟩], .bool false]) ∧ Below w.heap.size w w' := by
  go_enter Try.func20, Try.ntmps20
  go_wp2_with fail
  refine (c_initOk a b c d _).mono ?_
  rintro e w1 ⟨rfl, h1⟩
  have hR : Blk w1 (w.heap.size + 1) 24 #[.int .i64 0, .int .i64 0, .string ⟨#[]⟩] := Blk.below (by simpa using Blk.new (w.alloc _) 24 _) h1 (by simp)
  have B1 := Lib.hid (below_step (((Below.refl w.heap.size w).alloc (Nat.le_refl _) _).alloc (by simp) _) (by simp; omega) h1)
  obtain ⟨c0, c1, c2, c3, c4, c5⟩ := hR.get3
  clear h1 hR
  go_wp2
  exact bodyPost_ret (v := .tuple #[.agg #[.int .i64 0, .int .i64 0, .string ⟨#[]⟩], .bool false]) (by simp [results, Try.results20, go_sem, c0, c1, c2]) rfl ⟨rfl, ((B1.out.setCell (by simp) _).setCell (by simp) _).setCell (by simp) _⟩
theorem getD3 (b c d : Int) (i : Nat) (h : i < 3) : (#[Value.int .i64 b, .int .i64 c, .int .i64 d] : Array Value)[i]? = some (.int .i64 (([b, c, d] : List Int).getD i 0)) := by
  match i, h with
  | 0, _ => rfl
  | 1, _ => rfl
  | 2, _ => rfl
theorem range3 (b c d : Int) (hb : 0 ≤ b ∧ b ≤ 65535) (hc : 0 ≤ c ∧ c ≤ 65535) (hd : 0 ≤ d ∧ d ≤ 65535) (i : Nat) (h : i < 3) : 0 ≤ ([b, c, d] : List Int).getD i 0 ∧ ([b, c, d] : List Int).getD i 0 ≤ 65535 := by
  match i, h with
  | 0, _ => exact hb
  | 1, _ => exact hc
  | 2, _ => exact hd
/-- Three numbers in a new row. -/
theorem c_words3 (b c d : Int) (w : World) (hb : 0 ≤ b ∧ b ≤ 65535) (hc : 0 ≤ c ∧ c ≤ 65535) (hd : 0 ≤ d ∧ d ≤ 65535) :
    Calls Try.prog 49 #[.slice (some ⟨w.heap.size, 0, none⟩) 3 3] (w.alloc (.cells #[.int .i64 b, .int .i64 c, .int .i64 d] 3)) fun e w' => e = .returned (.string (wordsV [b, c, d])) ∧ Below (w.alloc (.cells #[.int .i64 b, .int .i64 c, .int .i64 d] 3)).heap.size (w.alloc (.cells #[.int .i64 b, .int .i64 c, .int .i64 d] 3)) w' :=
  c_words w.heap.size 3 [b, c, d] _ rfl (by omega) (fun i hi => (World.cell?_alloc_mark w _ _ (0, 0) i).trans (getD3 b c d i hi)) (fun i hi => range3 b c d hb hc hd i hi) (by simp)
set_option maxHeartbeats 2000000 in
theorem c_InitPut_yes (a b c d : Int) (ans : Bool) (w : World) (h : initOkV a b c d = true) : Calls Try.prog 20 #[.agg #[.int .i64 a, .int .i64 b, .int .i64 c, .int .i64 d], .bool ans] w fun e w' => e = .returned (.tuple #[.agg #[.int .i64 (bif ans then 2 else 1), .int .i64 0, .string (initBody a b c d)], .bool true]) ∧ Below w.heap.size w w' := by
  obtain ⟨ha, ha1, hb, hb1, hc, hc1, hd, hd1⟩ := initOk_yes h
  have hz := wordsV_size [b, c, d]
  have hzl : (wordsV [b, c, d]).size ≤ 6 := by rw [hz]; simp
  have hzz : ¬ 9223372036854775807 < 4 + (wordsV [b, c, d]).size := by omega
  clear hz
  cases ans with
  | true =>
    go_enter Try.func20, Try.ntmps20
    go_wp2_with fail
    refine (c_initOk a b c d _).mono ?_
    rintro e w1 ⟨rfl, h1⟩
    have hP : Blk w1 w.heap.size 27 #[.int .i64 a, .int .i64 b, .int .i64 c, .int .i64 d] := Blk.below ((Blk.new w _ _).alloc _) h1 (by simp; omega)
    have hR : Blk w1 (w.heap.size + 1) 24 #[.int .i64 0, .int .i64 0, .string ⟨#[]⟩] := Blk.below (by simpa using Blk.new (w.alloc _) 24 _) h1 (by simp)
    have B1 := Lib.hid (below_step (((Below.refl w.heap.size w).alloc (Nat.le_refl _) _).alloc (by simp) _) (by simp; omega) h1)
    have p0 := hP.cell 0
    have p1 := hP.cell 1
    have p2 := hP.cell 2
    have p3 := hP.cell 3
    simp at p0 p1 p2 p3
    clear h1
    go_wp2_with fail
    refine (c_LongPut a _ (by omega) ha1).mono ?_
    rintro e w2 ⟨rfl, h2⟩
    have hP2 := hP.below h2 hP.lt
    have hR2 := hR.below h2 hR.lt
    have B2 := Lib.hid (below_step B1.out B1.out.size h2)
    clear h2 hP hR B1 p0 p1 p2 p3
    have p0 := hP2.cell 0
    have p1 := hP2.cell 1
    have p2 := hP2.cell 2
    have p3 := hP2.cell 3
    simp at p0 p1 p2 p3
    go_wp2_with fail
    refine (c_words3 b c d _ ⟨hb, hb1⟩ ⟨by omega, by omega⟩ ⟨hd, hd1⟩).mono ?_
    rintro e w3 ⟨rfl, h3⟩
    have hR3 := (hR2.alloc _).below h3 (hR2.alloc _).lt
    have B3 := Lib.hid (below_step (B2.out.alloc B2.out.size _) (Nat.le_trans B2.out.size (by simp)) h3)
    obtain ⟨c0, c1, c2, c3, c4, c5⟩ := hR3.get3
    clear h3 hR3 hR2 hP2 B2 p0 p1 p2 p3
    go_wp2
    exact bodyPost_ret (v := .tuple #[.agg #[.int .i64 2, .int .i64 0, .string (initBody a b c d)], .bool true]) (by simp [results, Try.results20, go_sem, c0, c1, c2, initBody]) rfl ⟨rfl, ((B3.out.setCell (by simp) _).setCell (by simp) _).setCell (by simp) _⟩
  | false =>
    go_enter Try.func20, Try.ntmps20
    go_wp2_with fail
    refine (c_initOk a b c d _).mono ?_
    rintro e w1 ⟨rfl, h1⟩
    have hP : Blk w1 w.heap.size 27 #[.int .i64 a, .int .i64 b, .int .i64 c, .int .i64 d] := Blk.below ((Blk.new w _ _).alloc _) h1 (by simp; omega)
    have hR : Blk w1 (w.heap.size + 1) 24 #[.int .i64 0, .int .i64 0, .string ⟨#[]⟩] := Blk.below (by simpa using Blk.new (w.alloc _) 24 _) h1 (by simp)
    have B1 := Lib.hid (below_step (((Below.refl w.heap.size w).alloc (Nat.le_refl _) _).alloc (by simp) _) (by simp; omega) h1)
    have p0 := hP.cell 0
    have p1 := hP.cell 1
    have p2 := hP.cell 2
    have p3 := hP.cell 3
    simp at p0 p1 p2 p3
    clear h1
    go_wp2_with fail
    refine (c_LongPut a _ (by omega) ha1).mono ?_
    rintro e w2 ⟨rfl, h2⟩
    have hP2 := hP.below h2 hP.lt
    have hR2 := hR.below h2 hR.lt
    have B2 := Lib.hid (below_step B1.out B1.out.size h2)
    clear h2 hP hR B1 p0 p1 p2 p3
    have p0 := hP2.cell 0
    have p1 := hP2.cell 1
    have p2 := hP2.cell 2
    have p3 := hP2.cell 3
    simp at p0 p1 p2 p3
    go_wp2_with fail
    refine (c_words3 b c d _ ⟨hb, hb1⟩ ⟨by omega, by omega⟩ ⟨hd, hd1⟩).mono ?_
    rintro e w3 ⟨rfl, h3⟩
    have hR3 := (hR2.alloc _).below h3 (hR2.alloc _).lt
    have B3 := Lib.hid (below_step (B2.out.alloc B2.out.size _) (Nat.le_trans B2.out.size (by simp)) h3)
    obtain ⟨c0, c1, c2, c3, c4, c5⟩ := hR3.get3
    clear h3 hR3 hR2 hP2 B2 p0 p1 p2 p3
    go_wp2
    exact bodyPost_ret (v := .tuple #[.agg #[.int .i64 1, .int .i64 0, .string (initBody a b c d)], .bool true]) (by simp [results, Try.results20, go_sem, c0, c1, c2, initBody]) rfl ⟨rfl, ((B3.out.setCell (by simp) _).setCell (by simp) _).setCell (by simp) _⟩
set_option maxHeartbeats 2000000 in
theorem c_sInitPut_no (a b c d : Int) (ans : Bool) (w : World) (h : initOkV a b c d = false) : Calls Try.prog 21 #[.agg #[.int .i64 a, .int .i64 b, .int .i64 c, .int .i64 d], .bool ans] w fun e w' => e = .returned (.tuple #[.agg #[.int .i64 0, .int .i64 0, .string ⟨#[]⟩], .bool false]) ∧ Below w.heap.size w w' := by
  go_enter Try.func21, Try.ntmps21
  go_wp2_with fail
  refine (c_l12Init a b c d _).mono ?_
  rintro e w1 ⟨rfl, h1⟩
  have hR : Blk w1 (w.heap.size + 1) 24 #[.int .i64 0, .int .i64 0, .string ⟨#[]⟩] := Blk.below (by simpa using Blk.new (w.alloc _) 24 _) h1 (by simp)
  have B1 := Lib.hid (below_step (((Below.refl w.heap.size w).alloc (Nat.le_refl _) _).alloc (by simp) _) (by simp; omega) h1)
  obtain ⟨c0, c1, c2, c3, c4, c5⟩ := hR.get3
  clear h1 hR
  go_wp2
  exact bodyPost_ret (v := .tuple #[.agg #[.int .i64 0, .int .i64 0, .string ⟨#[]⟩], .bool false]) (by simp [results, Try.results21, go_sem, c0, c1, c2]) rfl ⟨rfl, ((B1.out.setCell (by simp) _).setCell (by simp) _).setCell (by simp) _⟩
set_option maxHeartbeats 4000000 in
theorem c_sInitPut_yes (a b c d : Int) (ans : Bool) (w : World) (h : initOkV a b c d = true) : Calls Try.prog 21 #[.agg #[.int .i64 a, .int .i64 b, .int .i64 c, .int .i64 d], .bool ans] w fun e w' => e = .returned (.tuple #[.agg #[.int .i64 (bif ans then 2 else 1), .int .i64 0, .string (initBody a b c d)], .bool true]) ∧ Below w.heap.size w w' := by
  obtain ⟨ha, ha1, hb, hb1, hc, hc1, hd, hd1⟩ := initOk_yes h
  have z1 : (w4 a ++ w2 b).size = 6 := rfl
  have z2 : (w4 a ++ w2 b ++ w2 c).size = 8 := rfl
  have Z := Lib.hid (show w4 a ++ w2 b ++ w2 c ++ w2 d = initBody a b c d by unfold initBody wordsV wordsV wordsV wordsV; simp only [app_empty, ByteArray.append_assoc])
  go_enter Try.func21, Try.ntmps21
  go_wp2_with fail
  refine (c_l12Init a b c d _).mono ?_
  rintro e w1 ⟨rfl, h1⟩
  have hP : Blk w1 w.heap.size 27 #[.int .i64 a, .int .i64 b, .int .i64 c, .int .i64 d] := Blk.below ((Blk.new w _ _).alloc _) h1 (by simp; omega)
  have hR : Blk w1 (w.heap.size + 1) 24 #[.int .i64 0, .int .i64 0, .string ⟨#[]⟩] := Blk.below (by simpa using Blk.new (w.alloc _) 24 _) h1 (by simp)
  have B1 := Lib.hid (below_step (((Below.refl w.heap.size w).alloc (Nat.le_refl _) _).alloc (by simp) _) (by simp; omega) h1)
  have hz1 : w.heap.size + 1 < w1.heap.size := hR.lt
  have hl0 := fun (W : World) (hW : Below w1.heap.size w1 W) => show W.cell? ⟨w.heap.size, 0, none⟩ = some (.int .i64 a) from (hP.below hW hP.lt).cell 0
  have hl1 := fun (W : World) (hW : Below w1.heap.size w1 W) => show W.cell? ⟨w.heap.size, 1, none⟩ = some (.int .i64 b) from (hP.below hW hP.lt).cell 1
  have hl2 := fun (W : World) (hW : Below w1.heap.size w1 W) => show W.cell? ⟨w.heap.size, 2, none⟩ = some (.int .i64 c) from (hP.below hW hP.lt).cell 2
  have hl3 := fun (W : World) (hW : Below w1.heap.size w1 W) => show W.cell? ⟨w.heap.size, 3, none⟩ = some (.int .i64 d) from (hP.below hW hP.lt).cell 3
  have HR := Lib.hid hR.get3
  clear h1 hP hR
  go_wp2_with fail
  go_region_held3 (fun w' => Below w1.heap.size w1 w')
    ((repeat' (first | (with_reducible assumption) | with_reducible exact Below.refl _ _ | with_reducible refine below_drew1 ?_ | with_reducible refine below_drewN ?_ _ | with_reducible refine Below.alloc ?_ ?_ _ | with_reducible refine Below.setCell ?_ ?_ _ | omega | (simp; done) | (simp; omega))))
    (first | (go_at_call 50; refine (c_l1LongX a _ (by omega) ha1).mono ?_; rintro e w2 ⟨rfl, rfl⟩) | (go_at_call 51; refine (c_l1WordX _ _ (by omega) (by omega)).mono ?_; rintro e w3 ⟨rfl, rfl⟩))
  all_goals
    obtain ⟨r0, r1, r2, f0, f1, f2⟩ := HR.out
    clear hl0 hl1 hl2 hl3
    obtain ⟨⟨l0, l1, l2, l3, l4, l5, l6, l7, l8, l9⟩, m0, m1, m2, m3, m4, m5, m6, m7, m8, m9⟩ := lts (show w.heap.size < w1.heap.size by omega)
    cases ans
    · go_wp2
      exact bodyPost_ret (v := .tuple #[.agg #[.int .i64 1, .int .i64 0, .string (initBody a b c d)], .bool true]) (by simp [results, Try.results21, go_sem, Z.out, hz1, l0, l1, l2, l3, l4, l5, l6, l7, l8, l9, r0, r1, r2, f0, f1, f2]) rfl ⟨rfl, by (repeat' (first | with_reducible exact B1.out | with_reducible exact Below.refl _ _ | with_reducible refine below_drew1 ?_ | with_reducible refine below_drewN ?_ _ | with_reducible refine Below.alloc ?_ ?_ _ | with_reducible refine Below.setCell ?_ ?_ _ | omega | (simp; done) | (simp; omega)))⟩
    · go_wp2
      exact bodyPost_ret (v := .tuple #[.agg #[.int .i64 2, .int .i64 0, .string (initBody a b c d)], .bool true]) (by simp [results, Try.results21, go_sem, Z.out, hz1, l0, l1, l2, l3, l4, l5, l6, l7, l8, l9, r0, r1, r2, f0, f1, f2]) rfl ⟨rfl, by (repeat' (first | with_reducible exact B1.out | with_reducible exact Below.refl _ _ | with_reducible refine below_drew1 ?_ | with_reducible refine below_drewN ?_ _ | with_reducible refine Below.alloc ?_ ?_ _ | with_reducible refine Below.setCell ?_ ?_ _ | omega | (simp; done) | (simp; omega)))⟩
end Go.Proofs.Ytegjbhngkhdcfaa
