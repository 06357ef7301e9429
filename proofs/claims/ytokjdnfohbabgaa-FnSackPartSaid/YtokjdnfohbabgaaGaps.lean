/-
  Blocks of a receipt: how they lie in memory, when they are valid, what the program and the reference say of that.
-/
import Derived.Test.YtokjdnfohbabgaaStep
import Derived.Test.YtokjdnfohbabgaaSerOk
import Derived.Test.YtokjdnfohbabgaaLongs
import Derived.LoopTactic
import Derived.Deep.RegionHeld3
namespace Go.Proofs.Ytokjdnfohbabgaa
set_option linter.unusedVariables false
set_option linter.unusedSimpArgs false
open Go.RowKit

/-- A slice reads as the blocks xs, all of it below B. -/
def Gaps (w : World) (B : Nat) (A : Option Addr) (n : Nat) (xs : List (Int × Int)) : Prop :=
  xs.length = n ∧ (0 < n → ∃ b o, A = some ⟨b, o, none⟩ ∧ b < B ∧ ∀ i, i < n → w.cell? ⟨b, o + i * 2, none⟩ = some (.int .i64 (xs.getD i (0, 0)).1) ∧ w.cell? ⟨b, o + i * 2 + 1, none⟩ = some (.int .i64 (xs.getD i (0, 0)).2))
theorem Gaps.below {w w' : World} {B B' : Nat} {A : Option Addr} {n : Nat} {xs : List (Int × Int)} (h : Gaps w B A n xs) (hb : Below B' w w') (hB : B ≤ B') : Gaps w' B A n xs :=
  ⟨h.1, fun hn => by
    obtain ⟨b, o, e, hlt, hc⟩ := h.2 hn
    refine ⟨b, o, e, hlt, fun i hi => ?_⟩
    obtain ⟨h1, h2⟩ := hc i hi
    exact ⟨(hb.cell (p := ⟨b, o + i * 2, none⟩) (Nat.lt_of_lt_of_le hlt hB)).trans h1, (hb.cell (p := ⟨b, o + i * 2 + 1, none⟩) (Nat.lt_of_lt_of_le hlt hB)).trans h2⟩⟩
theorem Gaps.more {w : World} {B B' : Nat} {A : Option Addr} {n : Nat} {xs : List (Int × Int)} (h : Gaps w B A n xs) (hB : B ≤ B') : Gaps w B' A n xs :=
  ⟨h.1, fun hn => by
    obtain ⟨b, o, e, hlt, hc⟩ := h.2 hn
    exact ⟨b, o, e, Nat.lt_of_lt_of_le hlt hB, hc⟩⟩
theorem Gaps.alloc {w : World} {B : Nat} {A : Option Addr} {n : Nat} {xs : List (Int × Int)} (h : Gaps w B A n xs) (hB : B ≤ w.heap.size) (o : Obj) : Gaps (w.alloc o) B A n xs :=
  h.below ((Below.refl B w).alloc hB o) (Nat.le_refl _)
theorem Gaps.drew {w : World} {B : Nat} {A : Option Addr} {n : Nat} {xs : List (Int × Int)} (h : Gaps w B A n xs) : Gaps w.drew B A n xs := h
theorem Gaps.drewN {w : World} {B : Nat} {A : Option Addr} {n : Nat} {xs : List (Int × Int)} (h : Gaps w B A n xs) (k : Nat) : Gaps (w.drewN k) B A n xs := h
theorem Gaps.setCell {w : World} {B : Nat} {A : Option Addr} {n : Nat} {xs : List (Int × Int)} (h : Gaps w B A n xs) {p : Addr} (hp : B ≤ p.block) (u : Value) : Gaps (w.setCell p u) B A n xs :=
  h.below ((Below.refl B w).setCell hp u) (Nat.le_refl _)

/-- Blocks behind a last one are valid: in order, they do not touch, and do not lie too far ahead. -/
def gapsOk : Int → List (Int × Int) → Bool
  | _, [] => true
  | l, g :: r => decide (l + 2 ≤ g.1 ∧ g.1 ≤ g.2 ∧ g.2 ≤ 16) && gapsOk g.2 r
def sackOkV (cum : Int) (xs : List (Int × Int)) : Bool := serOk cum && decide (xs.length ≤ 8) && gapsOk 0 xs
theorem drop_get (xs : List (Int × Int)) (j : Nat) (h : j < xs.length) : xs.drop j = xs.getD j (0, 0) :: xs.drop (j + 1) := by
  rw [List.drop_eq_getElem_cons h, List.getD_eq_getElem?_getD, List.getElem?_eq_getElem h]; rfl
theorem gapsOk_step {l : Int} {xs : List (Int × Int)} {j : Nat} (h : j < xs.length) : gapsOk l (xs.drop j) = (decide (l + 2 ≤ (xs.getD j (0, 0)).1 ∧ (xs.getD j (0, 0)).1 ≤ (xs.getD j (0, 0)).2 ∧ (xs.getD j (0, 0)).2 ≤ 16) && gapsOk (xs.getD j (0, 0)).2 (xs.drop (j + 1))) := by
  rw [drop_get xs j h]; rfl

set_option maxHeartbeats 2000000 in
theorem c_sackOk (cum : Int) (A : Option Addr) (n c : Nat) (xs : List (Int × Int)) (B : Nat) (w : World) (hG : Gaps w B A n xs) (hBw : B ≤ w.heap.size) (hn : n ≤ maxLen) :
    Calls Try.prog 38 #[.agg #[.int .i64 cum, .slice A n c]] w fun e w' => e = .returned (.bool (sackOkV cum xs)) ∧ Below w.heap.size w w' := by
  unfold maxLen at hn
  have B0 := Lib.hid (Below.refl w.heap.size w)
  have hl := hG.1
  cases hs : serOk cum with
  | false =>
    have hv : sackOkV cum xs = false := by unfold sackOkV; rw [hs]; rfl
    rw [hv]
    clear hv hl
    go_enter Try.func38, Try.ntmps38
    go_wp2_with fail
    refine (c_serialOk cum _).mono ?_
    rintro e w' ⟨rfl, rfl⟩
    go_wp2
    go_ret
    exact ⟨rfl, by (repeat' (first | with_reducible exact B0.out | with_reducible exact Below.refl _ _ | with_reducible refine below_drew1 ?_ | with_reducible refine below_drewN ?_ _ | with_reducible refine Below.alloc ?_ ?_ _ | with_reducible refine Below.setCell ?_ ?_ _ | omega | (simp; done) | (simp; omega)))⟩
  | true =>
    by_cases h8 : 8 < n
    · have hv : sackOkV cum xs = false := by unfold sackOkV; rw [hl]; simp; omega
      rw [hv]
      clear hv hl
      have h9 : (8 : Int) < (n : Int) := by omega
      go_enter Try.func38, Try.ntmps38
      go_wp2_with fail
      refine (c_serialOk cum _).mono ?_
      rintro e w' ⟨rfl, rfl⟩
      go_wp2
      go_ret
      exact ⟨rfl, by (repeat' (first | with_reducible exact B0.out | with_reducible exact Below.refl _ _ | with_reducible refine below_drew1 ?_ | with_reducible refine below_drewN ?_ _ | with_reducible refine Below.alloc ?_ ?_ _ | with_reducible refine Below.setCell ?_ ?_ _ | omega | (simp; done) | (simp; omega)))⟩
    · have hv : sackOkV cum xs = gapsOk 0 (xs.drop 0) := by unfold sackOkV; rw [hs, hl]; simp; omega
      rw [hv]
      have HL := Lib.hid hl
      clear hv hl
      go_enter Try.func38, Try.ntmps38
      go_wp2_with fail
      refine (c_serialOk cum _).mono ?_
      rintro e w' ⟨rfl, rfl⟩
      go_wp2
      go_loopw [3, 5, 19] (fun low _ i wr => ∃ (j : Nat) (l : Int), j ≤ n ∧ i = .int .i64 j ∧ low = .int .i64 (l + 2) ∧ 0 ≤ l ∧ l ≤ 16 ∧ gapsOk 0 (xs.drop 0) = gapsOk l (xs.drop j) ∧ Below w.heap.size w wr) (fun _ _ i _ => n - (intOf i).toNat)
      case atStart => exact ⟨0, 0, Nat.zero_le _, rfl, rfl, by omega, by omega, rfl, by (repeat' (first | with_reducible exact B0.out | with_reducible exact Below.refl _ _ | with_reducible refine below_drew1 ?_ | with_reducible refine below_drewN ?_ _ | with_reducible refine Below.alloc ?_ ?_ _ | with_reducible refine Below.setCell ?_ ?_ _ | omega | (simp; done) | (simp; omega)))⟩
      case round =>
        obtain ⟨j, l, hj, rfl, rfl, hl0, hl1, hok, hB⟩ := hrel
        have B1 := Lib.hid hB
        have OK := Lib.hid hok
        have hz := hB.size
        clear hB hok
        by_cases hlt : j < n
        · obtain ⟨b, o, rfl, hb, hc⟩ := hG.2 (by omega)
          obtain ⟨c0, c1⟩ := hc j hlt
          have hb := Nat.lt_of_lt_of_le hb hBw
          have d0 := (B1.out.cell (p := ⟨b, o + j * 2, none⟩) hb).trans c0
          have d1 := (B1.out.cell (p := ⟨b, o + j * 2 + 1, none⟩) hb).trans c1
          have hst := Lib.hid (gapsOk_step (l := l) (xs := xs) (j := j) (by rw [HL.out]; exact hlt))
          generalize hgx : xs.getD j (0, 0) = g at *
          obtain ⟨f, t⟩ := g
          clear hgx hc c0 c1 hG hBw
          simp only at d0 d1
          have hjn : (j : Int) < (n : Int) := by omega
          by_cases h1 : f < l + 2
          · have hr := Lib.hid (show gapsOk 0 (xs.drop 0) = false by rw [OK.out, hst.out]; simp; omega)
            go_wp2
            go_ret
            exact ⟨ret_bool hr.out.symm, by (repeat' (first | with_reducible exact B1.out | with_reducible exact Below.refl _ _ | with_reducible refine below_drew1 ?_ | with_reducible refine below_drewN ?_ _ | with_reducible refine Below.alloc ?_ ?_ _ | with_reducible refine Below.setCell ?_ ?_ _ | omega | (simp; done) | (simp; omega)))⟩
          by_cases h2 : t < f
          · have hr := Lib.hid (show gapsOk 0 (xs.drop 0) = false by rw [OK.out, hst.out]; simp; omega)
            go_wp2
            go_ret
            exact ⟨ret_bool hr.out.symm, by (repeat' (first | with_reducible exact B1.out | with_reducible exact Below.refl _ _ | with_reducible refine below_drew1 ?_ | with_reducible refine below_drewN ?_ _ | with_reducible refine Below.alloc ?_ ?_ _ | with_reducible refine Below.setCell ?_ ?_ _ | omega | (simp; done) | (simp; omega)))⟩
          by_cases h3 : 16 < t
          · have hr := Lib.hid (show gapsOk 0 (xs.drop 0) = false by rw [OK.out, hst.out]; simp; omega)
            go_wp2
            go_ret
            exact ⟨ret_bool hr.out.symm, by (repeat' (first | with_reducible exact B1.out | with_reducible exact Below.refl _ _ | with_reducible refine below_drew1 ?_ | with_reducible refine below_drewN ?_ _ | with_reducible refine Below.alloc ?_ ?_ _ | with_reducible refine Below.setCell ?_ ?_ _ | omega | (simp; done) | (simp; omega)))⟩
          have hr := Lib.hid (show gapsOk 0 (xs.drop 0) = gapsOk t (xs.drop (j + 1)) by rw [OK.out, hst.out]; simp; omega)
          go_wp2
          go_roundw
          case rel => exact ⟨j + 1, t, by omega, by go_num, rfl, by omega, by omega, hr.out, by (repeat' (first | with_reducible exact B1.out | with_reducible exact Below.refl _ _ | with_reducible refine below_drew1 ?_ | with_reducible refine below_drewN ?_ _ | with_reducible refine Below.alloc ?_ ?_ _ | with_reducible refine Below.setCell ?_ ?_ _ | omega | (simp; done) | (simp; omega)))⟩
          case measure => simp [intOf]; omega
        · have hje : j = n := by omega
          subst hje
          have hr := Lib.hid (show gapsOk 0 (xs.drop 0) = true by rw [OK.out, List.drop_eq_nil_of_le (Nat.le_of_eq HL.out)]; rfl)
          go_wp2
          go_ret
          exact ⟨ret_bool hr.out.symm, B1.out⟩

set_option maxHeartbeats 2000000 in
theorem c_l12Sack (cum : Int) (A : Option Addr) (n c : Nat) (xs : List (Int × Int)) (B : Nat) (w : World) (hG : Gaps w B A n xs) (hBw : B ≤ w.heap.size) (hn : n ≤ maxLen) :
    Calls Try.prog 40 #[.agg #[.int .i64 cum, .slice A n c]] w fun e w' => e = .returned (.bool (sackOkV cum xs)) ∧ Below w.heap.size w w' := by
  unfold maxLen at hn
  have B0 := Lib.hid (Below.refl w.heap.size w)
  have HL := Lib.hid hG.1
  go_enter Try.func40, Try.ntmps40
  go_wp2
  go_loopw [3, 4, 5] (fun l i _ wr => ∃ (j : Nat) (l' : Int), j ≤ n ∧ i = .int .i64 j ∧ l = .int .i64 l' ∧ 0 ≤ l' ∧ l' ≤ 16 ∧ gapsOk 0 xs = gapsOk l' (xs.drop j) ∧ Blk wr w.heap.size 28 #[.int .i64 cum, .slice A n c] ∧ Below w.heap.size w wr) (fun _ i _ _ => n - (intOf i).toNat)
  case atStart => exact ⟨0, 0, Nat.zero_le _, rfl, rfl, by omega, by omega, rfl, Blk.new _ _ _, by (repeat' (first | with_reducible exact B0.out | with_reducible exact Below.refl _ _ | with_reducible refine below_drew1 ?_ | with_reducible refine below_drewN ?_ _ | with_reducible refine Below.alloc ?_ ?_ _ | with_reducible refine Below.setCell ?_ ?_ _ | omega | (simp; done) | (simp; omega)))⟩
  case round =>
    obtain ⟨j, l, hj, rfl, rfl, hl0, hl1, hok, hP, hB⟩ := hrel
    have B1 := Lib.hid hB
    have OK := Lib.hid hok
    have HP := Lib.hid hP
    have hz := hP.lt
    obtain ⟨⟨p0, p1⟩, q0, q1⟩ := hP.get2n
    clear hB hok hP
    by_cases hlt : j < n
    · obtain ⟨b, o, rfl, hb, hc⟩ := hG.2 (by omega)
      obtain ⟨c0, c1⟩ := hc j hlt
      have hb := Nat.lt_of_lt_of_le hb hBw
      have d0 := (B1.out.cell (p := ⟨b, o + j * 2, none⟩) hb).trans c0
      have d1 := (B1.out.cell (p := ⟨b, o + j * 2 + 1, none⟩) hb).trans c1
      have hst := Lib.hid (gapsOk_step (l := l) (xs := xs) (j := j) (by rw [HL.out]; exact hlt))
      generalize hgx : xs.getD j (0, 0) = g at *
      obtain ⟨f, t⟩ := g
      clear hgx hc c0 c1 hG hBw
      simp only at d0 d1
      have hjn : (j : Int) < (n : Int) := by omega
      have hj0 : (0 : Int) ≤ (j : Int) := by omega
      by_cases h1 : f < l + 2
      · have hr := Lib.hid (show sackOkV cum xs = false by unfold sackOkV; rw [OK.out, hst.out]; simp; omega)
        go_wp2
        go_ret
        exact ⟨ret_bool hr.out.symm, by (repeat' (first | with_reducible exact B1.out | with_reducible exact Below.refl _ _ | with_reducible refine below_drew1 ?_ | with_reducible refine below_drewN ?_ _ | with_reducible refine Below.alloc ?_ ?_ _ | with_reducible refine Below.setCell ?_ ?_ _ | omega | (simp; done) | (simp; omega)))⟩
      by_cases h2 : t < f
      · have hr := Lib.hid (show sackOkV cum xs = false by unfold sackOkV; rw [OK.out, hst.out]; simp; omega)
        go_wp2
        go_ret
        exact ⟨ret_bool hr.out.symm, by (repeat' (first | with_reducible exact B1.out | with_reducible exact Below.refl _ _ | with_reducible refine below_drew1 ?_ | with_reducible refine below_drewN ?_ _ | with_reducible refine Below.alloc ?_ ?_ _ | with_reducible refine Below.setCell ?_ ?_ _ | omega | (simp; done) | (simp; omega)))⟩
      by_cases h3 : 16 < t
      · have hr := Lib.hid (show sackOkV cum xs = false by unfold sackOkV; rw [OK.out, hst.out]; simp; omega)
        go_wp2
        go_ret
        exact ⟨ret_bool hr.out.symm, by (repeat' (first | with_reducible exact B1.out | with_reducible exact Below.refl _ _ | with_reducible refine below_drew1 ?_ | with_reducible refine below_drewN ?_ _ | with_reducible refine Below.alloc ?_ ?_ _ | with_reducible refine Below.setCell ?_ ?_ _ | omega | (simp; done) | (simp; omega)))⟩
      have hr := Lib.hid (show gapsOk 0 xs = gapsOk t (xs.drop (j + 1)) by rw [OK.out, hst.out]; simp; omega)
      go_wp2
      go_roundw
      case rel => exact ⟨j + 1, t, by omega, by go_num, rfl, by omega, by omega, hr.out, by (repeat' (first | (with_reducible exact HP.out) | (with_reducible refine Blk.drewN ?_ _) | (with_reducible refine Blk.drew ?_) | (with_reducible refine Blk.new1 ?hb; case hb => (first | omega | (simp; done) | (simp; omega))) | (with_reducible refine Blk.alloc ?_ _) | (with_reducible refine' Blk.set2_0 ?_ ?hb; case hb => (first | omega | (simp; done) | (simp; omega))) | (with_reducible refine' Blk.set2_1 ?_ ?hb; case hb => (first | omega | (simp; done) | (simp; omega))) | (with_reducible refine' Blk.set3_0 ?_ ?hb; case hb => (first | omega | (simp; done) | (simp; omega))) | (with_reducible refine' Blk.set3_1 ?_ ?hb; case hb => (first | omega | (simp; done) | (simp; omega))) | (with_reducible refine' Blk.set3_2 ?_ ?hb; case hb => (first | omega | (simp; done) | (simp; omega))) | (with_reducible refine' Blk.set4_0 ?_ ?hb; case hb => (first | omega | (simp; done) | (simp; omega))) | (with_reducible refine' Blk.set4_1 ?_ ?hb; case hb => (first | omega | (simp; done) | (simp; omega))) | (with_reducible refine' Blk.set4_2 ?_ ?hb; case hb => (first | omega | (simp; done) | (simp; omega))) | (with_reducible refine' Blk.set4_3 ?_ ?hb; case hb => (first | omega | (simp; done) | (simp; omega))) | (with_reducible refine' Blk.set7_0 ?_ ?hb; case hb => (first | omega | (simp; done) | (simp; omega))) | (with_reducible refine' Blk.set7_1 ?_ ?hb; case hb => (first | omega | (simp; done) | (simp; omega))) | (with_reducible refine' Blk.set7_2 ?_ ?hb; case hb => (first | omega | (simp; done) | (simp; omega))) | (with_reducible refine' Blk.set7_3 ?_ ?hb; case hb => (first | omega | (simp; done) | (simp; omega))) | (with_reducible refine' Blk.set7_4 ?_ ?hb; case hb => (first | omega | (simp; done) | (simp; omega))) | (with_reducible refine' Blk.set7_5 ?_ ?hb; case hb => (first | omega | (simp; done) | (simp; omega))) | (with_reducible refine' Blk.set7_6 ?_ ?hb; case hb => (first | omega | (simp; done) | (simp; omega))) | (with_reducible refine Blk.far ?_ ?hb _; case hb => (first | omega | (simp; done) | (simp; omega))) | fail)), by (repeat' (first | with_reducible exact B1.out | with_reducible exact Below.refl _ _ | with_reducible refine below_drew1 ?_ | with_reducible refine below_drewN ?_ _ | with_reducible refine Below.alloc ?_ ?_ _ | with_reducible refine Below.setCell ?_ ?_ _ | omega | (simp; done) | (simp; omega)))⟩
      case measure => simp [intOf]; omega
    · have hje : j = n := by omega
      subst hje
      have hr := Lib.hid (show sackOkV cum xs = (serOk cum && decide (j ≤ 8)) by unfold sackOkV; rw [OK.out, List.drop_eq_nil_of_le (Nat.le_of_eq HL.out), HL.out]; simp [gapsOk])
      go_wp2_with (go_at_call 45; refine (c_l3Ok _ _).mono ?_; rintro e w' ⟨rfl, rfl⟩)
      all_goals go_ret
      all_goals exact ⟨ret_bool (by rw [hr.out]; simp [*]; try omega), B1.out⟩
end Go.Proofs.Ytokjdnfohbabgaa
