/-
  Drawn receipts.
-/
import Derived.Test.YtokjdnfohbabgaaSSackGet
import Derived.Test.YtokjdnfohbabgaaMark
import Derived.Test.YtokjdnfohbabgaaDrawLong
import Derived.Deep.RegionWith
import Derived.Deep.DeepCutAuto
namespace Go.Proofs.Ytokjdnfohbabgaa
set_option linter.unusedVariables false
set_option linter.unusedSimpArgs false
open Go.RowKit

theorem OG.grown {w w' : World} {base g : Nat} {v : Value} {xs : List (Int × Int)} (h : OG w base v xs) (hg : w.grownBy w' (some g)) (hlt : g < base) : OG w' base v xs := World.ownsRow.kept h hg (own_ne h hlt)
/-- The receipt that is being drawn: its variable q, its row gr. -/
structure SSt (w wr : World) (g q gr k c K : Nat) (cum : Int) (xs : List (Int × Int)) : Prop where
  res : Blk wr w.heap.size 28 #[.int .i64 0, .slice none 0 0]
  var : Blk wr q 28 #[.int .i64 cum, .slice (some ⟨gr, 0, none⟩) k c]
  row : OG wr (w.heap.size + 1) (.slice (some ⟨gr, 0, none⟩) k c) xs
  len : xs.length = k
  ne : gr ≠ q
  gt : w.heap.size < gr
  qgt : w.heap.size < q
  rlt : gr < wr.heap.size
  rd : Rd wr g K
  own : w.grownBy wr (some g)
  cge : -1 ≤ cum
  cle : cum ≤ 65536
section
variable {w wr wr' : World} {g q gr k c K K' : Nat} {cum : Int} {xs : List (Int × Int)}
theorem SSt.grown (h : SSt w wr g q gr k c K cum xs) (hg : wr.grownBy wr' (some g)) (hR : Rd wr' g K') (hgw : g < w.heap.size) : SSt w wr' g q gr k c K' cum xs :=
  have := h.gt
  have := h.qgt
  ⟨h.res.grown hg (by omega), h.var.grown hg (by omega), h.row.grown hg (by omega), h.len, h.ne, h.gt, h.qgt, Nat.lt_of_lt_of_le h.rlt hg.size, hR, only_trans h.own hg, h.cge, h.cle⟩
theorem SSt.alloc (h : SSt w wr g q gr k c K cum xs) (o : Obj) : SSt w (wr.alloc o) g q gr k c K cum xs :=
  ⟨h.res.alloc o, h.var.alloc o, h.row.alloc o, h.len, h.ne, h.gt, h.qgt, Nat.lt_of_lt_of_le h.rlt (by simp), h.rd.alloc o, only_alloc h.own o, h.cge, h.cle⟩
theorem SSt.drew (h : SSt w wr g q gr k c K cum xs) : SSt w wr.drew g q gr k c K cum xs := ⟨h.res, h.var, h.row, h.len, h.ne, h.gt, h.qgt, h.rlt, h.rd, only_drew h.own, h.cge, h.cle⟩
theorem SSt.drewN (h : SSt w wr g q gr k c K cum xs) (n : Nat) : SSt w (wr.drewN n) g q gr k c K cum xs := ⟨h.res, h.var, h.row, h.len, h.ne, h.gt, h.qgt, h.rlt, h.rd, only_drewN h.own n, h.cge, h.cle⟩
theorem SSt.far (h : SSt w wr g q gr k c K cum xs) (hgw : g < w.heap.size) {p : Addr} (h1 : w.heap.size < p.block) (h2 : p.block ≠ q) (h3 : p.block ≠ gr) (u : Value) : SSt w (wr.setCell p u) g q gr k c K cum xs :=
  ⟨h.res.far (by omega) u, h.var.far (fun e => h2 e.symm) u, h.row.far h3 u, h.len, h.ne, h.gt, h.qgt, by simpa [World.setCell] using h.rlt, h.rd.setCell (by omega) u, only_setCell h.own (.inr (by omega)) u, h.cge, h.cle⟩
theorem SSt.mono (h : SSt w wr g q gr k c K cum xs) (hK : K ≤ K') : SSt w wr g q gr k c K' cum xs := ⟨h.res, h.var, h.row, h.len, h.ne, h.gt, h.qgt, h.rlt, h.rd.mono hK, h.own, h.cge, h.cle⟩
/-- Behind an append: the row may be another one; the variable holds it. -/
theorem SSt.put (h : SSt w wr g q gr k c K cum xs) {W w' : World} {g4 c4 : Nat} {f t : Int} (hb : Below wr.heap.size wr W) (hgw : g < w.heap.size) (hgr : W.grownBy w' (some gr)) (hown : w'.ownsRow (w.heap.size + 1) 38 2 (.slice (some ⟨g4, 0, none⟩) (k + 1) c4) (k + 1) (flatG xs ++ [.int .i64 f, .int .i64 t])) (hat : gr = g4 ∨ q < g4 ∧ w.heap.size < g4) (hlt : g4 < w'.heap.size) :
    SSt w (w'.setCell ⟨q, 1, none⟩ (.slice (some ⟨g4, 0, none⟩) (k + 1) c4)) g q g4 (k + 1) c4 K cum (xs ++ [(f, t)]) := by
  have h1 := h.gt
  have h2 := h.qgt
  have h3 := h.ne
  have h4 := h.res.lt
  have h5 := h.var.lt
  have hg4 : g4 ≠ q ∧ w.heap.size < g4 := by rcases hat with h | h <;> omega
  have hr : Blk w' w.heap.size 28 #[.int .i64 0, .slice none 0 0] := (h.res.below hb h4).grown hgr (by omega)
  have hv : Blk w' q 28 #[.int .i64 cum, .slice (some ⟨gr, 0, none⟩) k c] := (h.var.below hb h5).grown hgr (by omega)
  have hrd : Rd w' g K := (h.rd.below hb h.rd.lt).below ((Below.refl (w.heap.size + 1) W).grown hgr (Nat.le_trans (by omega) hb.size) (fun j e => by injection e with e; omega)) (by omega)
  have hO : OG w' (w.heap.size + 1) (.slice (some ⟨g4, 0, none⟩) (k + 1) c4) (xs ++ [(f, t)]) := OG.snoc hown h.len
  have hw : w.grownBy w' (some g) := by
    have e := h.own
    refine ⟨hgr.os.trans (hb.os.trans e.os), hgr.tape.trans (hb.tape.trans e.tape), hgr.output.trans (hb.output.trans e.output), Nat.le_trans e.size (Nat.le_trans hb.size hgr.size), fun i hi hne => ?_⟩
    have i1 : i < wr.heap.size := Nat.lt_of_lt_of_le hi e.size
    exact (hgr.block i (Nat.lt_of_lt_of_le i1 hb.size) (fun e => by injection e with e; omega)).trans ((hb.block i i1).trans (e.block i hi hne))
  exact ⟨hr.far (by show w.heap.size ≠ q; omega) _, by have := hv.set_ 1 (.slice (some ⟨g4, 0, none⟩) (k + 1) c4); exact this, hO.far (by show q ≠ g4; omega) _, by simp [h.len], hg4.1, hg4.2, h2, by simpa [World.setCell] using hlt, hrd.setCell (by show g < q; omega) _, only_setCell hw (.inr (by show w.heap.size ≤ q; omega)) _, h.cge, h.cle⟩
end
/-- A receipt is handed back, the reader may have moved on. -/
def RdSack (w : World) (g k : Nat) (e : Ending) (w' : World) : Prop :=
  ∃ (cum : Int) (v : Value) (xs : List (Int × Int)), e = .returned (.agg #[.int .i64 cum, v]) ∧ -1 ≤ cum ∧ cum ≤ 65536 ∧ xs.length ≤ 10 ∧ OG w' (w.heap.size + 1) v xs ∧ Rd w' g k ∧ w.grownBy w' (some g)
set_option maxRecDepth 100000 in
set_option maxHeartbeats 8000000 in
theorem c_l91Sack (g k : Nat) (w : World) (hR : Rd w g k) (hk : k ≤ 60000) : Calls Try.prog 35 #[.pointer (some ⟨g, 0, none⟩)] w (RdSack w g (k + 60)) := by
  obtain ⟨i0, hi, hz0, hz1, hz2⟩ := info_parts Try.infoGap
  have hgw := hR.lt
  go_enter Try.func35, Try.ntmps35
  go_wp2_with fail
  refine (c_l91Good g k _ (hR.alloc _) (by omega)).mono ?_
  rintro e w1 ⟨cum, rfl, hc0, hc1, hR1, hg1⟩
  have hQ1 : Blk w1 w.heap.size 28 #[.int .i64 0, .slice none 0 0] := Blk.grown (Blk.new w _ _) hg1 (by omega)
  have hq1 := hQ1.lt
  have G1 := Lib.hid (only_trans (only_alloc (only_refl w g) _) hg1)
  clear hg1
  have hst : ∀ o : Obj, o = .cells #[.int .i64 cum, .slice (some ⟨w1.heap.size, 0, none⟩) 0 0] 28 → SSt w ((w1.alloc (.cells #[] 38)).alloc o) g (w1.heap.size + 1) w1.heap.size 0 0 (k + 3) cum [] := by
    rintro o rfl
    refine ⟨(hQ1.alloc _).alloc _, by simpa using Blk.new (w1.alloc (.cells #[] 38)) 28 _, ?_, rfl, by omega, by omega, by omega, by simp; omega, (hR1.alloc _).alloc _, only_alloc (only_alloc G1.out _) _, by omega, by omega⟩
    exact OG.start (W := w1) (hb := (Below.refl _ _).alloc (Nat.le_refl _) _) rfl (by omega)
  have ST := Lib.hid (hst _ rfl)
  clear hst
  go_wp2_with fail
  refine (c_pick g (k + 3) 4 _ ST.out.rd (by omega) (by omega)).mono ?_
  rintro e w2 ⟨n, rfl, hn0, hn1, hR2, hg2⟩
  have S2 := Lib.hid (ST.out.grown hg2 hR2 hgw)
  clear hg2 ST hR1 hR2 hQ1 G1
  go_upto_if 16 with (go_at_call 52; refine (c_pick g (k + 3 + 1) 12 _ S2.out.rd (by omega) (by omega)).mono ?_; rintro e w3 ⟨v, rfl, hv0, hv1, hR3, hg3⟩)
  have S3 := Lib.hid (S2.out.grown hg3 hR3 hgw)
  clear hg3 hR3 S2
  generalize w1.heap.size + 1 = q at *
  go_cut [5] (fun s5 wx => ∃ m : Int, s5 = .int .i64 m ∧ 0 ≤ m ∧ m ≤ 9 ∧ SSt w wx g q w1.heap.size 0 0 (k + 3 + 1 + 1) cum [])
  case first =>
    by_cases h0 : v = 0
    · subst h0
      go_wp2_with fail
      go_meet
      exact ⟨9, rfl, by omega, by omega, S3.out⟩
    · have hb : (v == 0) = false := by simp; omega
      go_wp2_with fail
      go_meet
      exact ⟨n, rfl, by omega, by omega, S3.out⟩
  case rest =>
    obtain ⟨m, rfl, hm0, hm1, hS⟩ := hcut
    obtain ⟨n, rfl⟩ := Int.eq_ofNat_of_zero_le hm0
    have hn9 : n ≤ 9 := by omega
    have S4 := Lib.hid hS
    clear hS hm0 hm1 S3
    go_wp2
    go_loopw [4, 6] (fun at_ i wr => ∃ (j gr l c : Nat) (a : Int) (xs : List (Int × Int)), j ≤ n ∧ l ≤ j ∧ at_ = .int .i64 a ∧ i = .int .i64 j ∧ 0 ≤ a ∧ a ≤ 10 * j ∧ SSt w wr g q gr l c (k + 5 + 4 * j) cum xs) (fun _ i _ => n - (intOf i).toNat)
    case atStart => exact ⟨0, w1.heap.size, 0, 0, 0, [], by omega, by omega, rfl, rfl, by omega, by omega, S4.out⟩
    case round =>
      obtain ⟨j, gr, l, c, a, xs, hj, hlj, rfl, rfl, ha0, ha1, hS⟩ := hrel
      have SR := Lib.hid hS
      clear hS
      by_cases hlt : j < n
      · have ha9 : a ≤ 90 := by omega
        have hlr := SR.out.len
        go_upto_if 29 with (go_at_call 52; refine (c_pick g (k + 5 + 4 * j) 3 _ SR.out.rd (by omega) (by omega)).mono ?_; rintro e wp ⟨v, rfl, hv0, hv1, hRp, hgp⟩)
        have SP := Lib.hid (SR.out.grown hgp hRp hgw)
        have hbq := SP.out.var.lt
        have hbg := SP.out.rlt
        have hbr := SP.out.res.lt
        have hqg := SP.out.qgt
        have hgg := SP.out.gt
        clear hgp hRp SR
        go_cut [] (fun wx => ∃ f : Int, 0 ≤ f ∧ f ≤ a + 4 ∧ Blk wx wp.heap.size 38 #[.int .i64 f, .int .i64 0] ∧ SSt w wx g q gr l c (k + 5 + 4 * j + 1) cum xs)
        case first =>
          by_cases h9 : n = 9
          · subst h9
            go_wp2_with fail
            go_meet
            exact ⟨a + 2, by omega, by omega, by (repeat' (first | (with_reducible refine Blk.drewN ?_ _) | (with_reducible refine Blk.drew ?_) | (with_reducible refine Blk.new1 ?hb; case hb => (first | omega | (simp; done) | (simp; omega))) | (with_reducible refine Blk.alloc ?_ _) | (with_reducible refine' Blk.set2_0 ?_ ?hb; case hb => (first | omega | (simp; done) | (simp; omega))) | (with_reducible refine' Blk.set2_1 ?_ ?hb; case hb => (first | omega | (simp; done) | (simp; omega))) | (with_reducible refine' Blk.set3_0 ?_ ?hb; case hb => (first | omega | (simp; done) | (simp; omega))) | (with_reducible refine' Blk.set3_1 ?_ ?hb; case hb => (first | omega | (simp; done) | (simp; omega))) | (with_reducible refine' Blk.set3_2 ?_ ?hb; case hb => (first | omega | (simp; done) | (simp; omega))) | (with_reducible refine' Blk.set4_0 ?_ ?hb; case hb => (first | omega | (simp; done) | (simp; omega))) | (with_reducible refine' Blk.set4_1 ?_ ?hb; case hb => (first | omega | (simp; done) | (simp; omega))) | (with_reducible refine' Blk.set4_2 ?_ ?hb; case hb => (first | omega | (simp; done) | (simp; omega))) | (with_reducible refine' Blk.set4_3 ?_ ?hb; case hb => (first | omega | (simp; done) | (simp; omega))) | (with_reducible refine' Blk.set7_0 ?_ ?hb; case hb => (first | omega | (simp; done) | (simp; omega))) | (with_reducible refine' Blk.set7_1 ?_ ?hb; case hb => (first | omega | (simp; done) | (simp; omega))) | (with_reducible refine' Blk.set7_2 ?_ ?hb; case hb => (first | omega | (simp; done) | (simp; omega))) | (with_reducible refine' Blk.set7_3 ?_ ?hb; case hb => (first | omega | (simp; done) | (simp; omega))) | (with_reducible refine' Blk.set7_4 ?_ ?hb; case hb => (first | omega | (simp; done) | (simp; omega))) | (with_reducible refine' Blk.set7_5 ?_ ?hb; case hb => (first | omega | (simp; done) | (simp; omega))) | (with_reducible refine' Blk.set7_6 ?_ ?hb; case hb => (first | omega | (simp; done) | (simp; omega))) | (with_reducible refine Blk.far ?_ ?hb _; case hb => (first | omega | (simp; done) | (simp; omega))) | fail)), SP.out.alloc _⟩
          · have hb9 : ((n : Int) == 9) = false := by simp; omega
            go_wp2_with fail
            go_meet
            exact ⟨a + 2 + v, by omega, by omega, by (repeat' (first | (with_reducible refine Blk.drewN ?_ _) | (with_reducible refine Blk.drew ?_) | (with_reducible refine Blk.new1 ?hb; case hb => (first | omega | (simp; done) | (simp; omega))) | (with_reducible refine Blk.alloc ?_ _) | (with_reducible refine' Blk.set2_0 ?_ ?hb; case hb => (first | omega | (simp; done) | (simp; omega))) | (with_reducible refine' Blk.set2_1 ?_ ?hb; case hb => (first | omega | (simp; done) | (simp; omega))) | (with_reducible refine' Blk.set3_0 ?_ ?hb; case hb => (first | omega | (simp; done) | (simp; omega))) | (with_reducible refine' Blk.set3_1 ?_ ?hb; case hb => (first | omega | (simp; done) | (simp; omega))) | (with_reducible refine' Blk.set3_2 ?_ ?hb; case hb => (first | omega | (simp; done) | (simp; omega))) | (with_reducible refine' Blk.set4_0 ?_ ?hb; case hb => (first | omega | (simp; done) | (simp; omega))) | (with_reducible refine' Blk.set4_1 ?_ ?hb; case hb => (first | omega | (simp; done) | (simp; omega))) | (with_reducible refine' Blk.set4_2 ?_ ?hb; case hb => (first | omega | (simp; done) | (simp; omega))) | (with_reducible refine' Blk.set4_3 ?_ ?hb; case hb => (first | omega | (simp; done) | (simp; omega))) | (with_reducible refine' Blk.set7_0 ?_ ?hb; case hb => (first | omega | (simp; done) | (simp; omega))) | (with_reducible refine' Blk.set7_1 ?_ ?hb; case hb => (first | omega | (simp; done) | (simp; omega))) | (with_reducible refine' Blk.set7_2 ?_ ?hb; case hb => (first | omega | (simp; done) | (simp; omega))) | (with_reducible refine' Blk.set7_3 ?_ ?hb; case hb => (first | omega | (simp; done) | (simp; omega))) | (with_reducible refine' Blk.set7_4 ?_ ?hb; case hb => (first | omega | (simp; done) | (simp; omega))) | (with_reducible refine' Blk.set7_5 ?_ ?hb; case hb => (first | omega | (simp; done) | (simp; omega))) | (with_reducible refine' Blk.set7_6 ?_ ?hb; case hb => (first | omega | (simp; done) | (simp; omega))) | (with_reducible refine Blk.far ?_ ?hb _; case hb => (first | omega | (simp; done) | (simp; omega))) | fail)), SP.out.alloc _⟩
        case rest =>
          obtain ⟨f, hf0, hf1, hT, hS⟩ := hcut
          have SC := Lib.hid hS
          have TC := Lib.hid hT
          have tf0 : wc.cell? ⟨wp.heap.size, 0, none⟩ = some (.int .i64 f) := hT.cell 0
          have hbne : wp.heap.size ≠ g := by omega
          have hbl := hT.lt
          clear hS hT SP
          go_wp2_with fail
          go_region_held3 (fun w' => w'.cell? ⟨wp.heap.size, 0, none⟩ = some (.int .i64 f))
            (first | (with_reducible exact tf0) | (with_reducible exact ta0) | (with_reducible exact tb0) | (exact tf0) | (exact (World.cell?_setCell_other wb _ _ _ (by intro e; injection e with e1 e2; cases e2)).trans tb0) | go_keep | fail)
            (first | (go_at_call 52; (with_reducible refine (c_pick g (k + 5 + 4 * j + 1) 3 _ (by (repeat' (first | with_reducible exact SC.out.rd | with_reducible refine Rd.mono SC.out.rd ?_ | with_reducible refine Rd.setCell ?_ ?_ _ | with_reducible refine Rd.alloc ?_ _ | with_reducible refine Rd.drewN ?_ _ | with_reducible refine Rd.drew ?_ | omega | (simp; done) | (simp; omega)))) (by omega) (by omega)).mono ?_); rintro e wa ⟨p, rfl, hp0, hp1, hRa, hga⟩; have SA : SSt w wa g q gr l c (k + 5 + 4 * j + 1 + 1) cum xs := (SSt.grown (by first | exact SC.out | exact SC.out.drew | exact SC.out.drewN _) hga hRa hgw); have TA : Blk wa wp.heap.size 38 #[.int .i64 f, .int .i64 0] := Blk.grown (by (repeat' (first | (with_reducible exact TC.out) | (with_reducible refine Blk.drewN ?_ _) | (with_reducible refine Blk.drew ?_) | (with_reducible refine Blk.new1 ?hb; case hb => (first | omega | (simp; done) | (simp; omega))) | (with_reducible refine Blk.alloc ?_ _) | (with_reducible refine' Blk.set2_0 ?_ ?hb; case hb => (first | omega | (simp; done) | (simp; omega))) | (with_reducible refine' Blk.set2_1 ?_ ?hb; case hb => (first | omega | (simp; done) | (simp; omega))) | (with_reducible refine' Blk.set3_0 ?_ ?hb; case hb => (first | omega | (simp; done) | (simp; omega))) | (with_reducible refine' Blk.set3_1 ?_ ?hb; case hb => (first | omega | (simp; done) | (simp; omega))) | (with_reducible refine' Blk.set3_2 ?_ ?hb; case hb => (first | omega | (simp; done) | (simp; omega))) | (with_reducible refine' Blk.set4_0 ?_ ?hb; case hb => (first | omega | (simp; done) | (simp; omega))) | (with_reducible refine' Blk.set4_1 ?_ ?hb; case hb => (first | omega | (simp; done) | (simp; omega))) | (with_reducible refine' Blk.set4_2 ?_ ?hb; case hb => (first | omega | (simp; done) | (simp; omega))) | (with_reducible refine' Blk.set4_3 ?_ ?hb; case hb => (first | omega | (simp; done) | (simp; omega))) | (with_reducible refine' Blk.set7_0 ?_ ?hb; case hb => (first | omega | (simp; done) | (simp; omega))) | (with_reducible refine' Blk.set7_1 ?_ ?hb; case hb => (first | omega | (simp; done) | (simp; omega))) | (with_reducible refine' Blk.set7_2 ?_ ?hb; case hb => (first | omega | (simp; done) | (simp; omega))) | (with_reducible refine' Blk.set7_3 ?_ ?hb; case hb => (first | omega | (simp; done) | (simp; omega))) | (with_reducible refine' Blk.set7_4 ?_ ?hb; case hb => (first | omega | (simp; done) | (simp; omega))) | (with_reducible refine' Blk.set7_5 ?_ ?hb; case hb => (first | omega | (simp; done) | (simp; omega))) | (with_reducible refine' Blk.set7_6 ?_ ?hb; case hb => (first | omega | (simp; done) | (simp; omega))) | (with_reducible refine Blk.far ?_ ?hb _; case hb => (first | omega | (simp; done) | (simp; omega))) | fail))) hga hbne; have ta0 : wa.cell? ⟨wp.heap.size, 0, none⟩ = some (.int .i64 f) := TA.cell 0; clear hga hRa) | (go_at_call 52; (with_reducible refine (c_pick g (k + 5 + 4 * j + 1 + 1) 2 _ (by (repeat' (first | with_reducible exact SA.rd | with_reducible refine Rd.mono SA.rd ?_ | with_reducible refine Rd.setCell ?_ ?_ _ | with_reducible refine Rd.alloc ?_ _ | with_reducible refine Rd.drewN ?_ _ | with_reducible refine Rd.drew ?_ | omega | (simp; done) | (simp; omega)))) (by omega) (by omega)).mono ?_); rintro e wb ⟨r, rfl, hr0, hr1, hRb, hgb⟩; have SB : SSt w wb g q gr l c (k + 5 + 4 * j + 1 + 1 + 1) cum xs := (SSt.grown (by first | exact SA | exact SA.drew | exact SA.drewN _) hgb hRb hgw); have TB : Blk wb wp.heap.size 38 #[.int .i64 f, .int .i64 0] := Blk.grown (by (repeat' (first | (with_reducible exact TA) | (with_reducible refine Blk.drewN ?_ _) | (with_reducible refine Blk.drew ?_) | (with_reducible refine Blk.new1 ?hb; case hb => (first | omega | (simp; done) | (simp; omega))) | (with_reducible refine Blk.alloc ?_ _) | (with_reducible refine' Blk.set2_0 ?_ ?hb; case hb => (first | omega | (simp; done) | (simp; omega))) | (with_reducible refine' Blk.set2_1 ?_ ?hb; case hb => (first | omega | (simp; done) | (simp; omega))) | (with_reducible refine' Blk.set3_0 ?_ ?hb; case hb => (first | omega | (simp; done) | (simp; omega))) | (with_reducible refine' Blk.set3_1 ?_ ?hb; case hb => (first | omega | (simp; done) | (simp; omega))) | (with_reducible refine' Blk.set3_2 ?_ ?hb; case hb => (first | omega | (simp; done) | (simp; omega))) | (with_reducible refine' Blk.set4_0 ?_ ?hb; case hb => (first | omega | (simp; done) | (simp; omega))) | (with_reducible refine' Blk.set4_1 ?_ ?hb; case hb => (first | omega | (simp; done) | (simp; omega))) | (with_reducible refine' Blk.set4_2 ?_ ?hb; case hb => (first | omega | (simp; done) | (simp; omega))) | (with_reducible refine' Blk.set4_3 ?_ ?hb; case hb => (first | omega | (simp; done) | (simp; omega))) | (with_reducible refine' Blk.set7_0 ?_ ?hb; case hb => (first | omega | (simp; done) | (simp; omega))) | (with_reducible refine' Blk.set7_1 ?_ ?hb; case hb => (first | omega | (simp; done) | (simp; omega))) | (with_reducible refine' Blk.set7_2 ?_ ?hb; case hb => (first | omega | (simp; done) | (simp; omega))) | (with_reducible refine' Blk.set7_3 ?_ ?hb; case hb => (first | omega | (simp; done) | (simp; omega))) | (with_reducible refine' Blk.set7_4 ?_ ?hb; case hb => (first | omega | (simp; done) | (simp; omega))) | (with_reducible refine' Blk.set7_5 ?_ ?hb; case hb => (first | omega | (simp; done) | (simp; omega))) | (with_reducible refine' Blk.set7_6 ?_ ?hb; case hb => (first | omega | (simp; done) | (simp; omega))) | (with_reducible refine Blk.far ?_ ?hb _; case hb => (first | omega | (simp; done) | (simp; omega))) | fail))) hgb hbne; have tb0 : wb.cell? ⟨wp.heap.size, 0, none⟩ = some (.int .i64 f) := TB.cell 0; have tb1 : wb.cell? ⟨wp.heap.size, 1, none⟩ = some (.int .i64 0) := TB.cell 1; have tbf := TB.frozen 1; have hm0 : 0 ≤ p * r := Int.mul_nonneg hp0 hr0; have hm1 : p * r ≤ 2 * 1 := Int.mul_le_mul hp1 hr1 hr0 (by omega); have hm2 : p * r ≤ 2 := hm1; clear hgb hRb hm1) | fail)
          all_goals (clear tf0 ta0; have SBH := Lib.hid SB; have TBH := Lib.hid TB; clear SA SB TA TB)
          go_upto_if 43 with fail
          go_cut [] (fun wx => ∃ t : Int, 0 ≤ t ∧ t ≤ a + 6 ∧ Blk wx wp.heap.size 38 #[.int .i64 f, .int .i64 t] ∧ SSt w wx g q gr l c (k + 5 + 4 * j + 1 + 1 + 1) cum xs)
          case first =>
            by_cases h9 : n = 9
            · subst h9
              have hbl2 := TBH.out.lt
              go_wp2_with fail
              go_meet
              refine ⟨f, by omega, by omega, ?_, ?_⟩
              · (repeat' (first | (with_reducible exact TBH.out) | (with_reducible refine Blk.drewN ?_ _) | (with_reducible refine Blk.drew ?_) | (with_reducible refine Blk.new1 ?hb; case hb => (first | omega | (simp; done) | (simp; omega))) | (with_reducible refine Blk.alloc ?_ _) | (with_reducible refine' Blk.set2_0 ?_ ?hb; case hb => (first | omega | (simp; done) | (simp; omega))) | (with_reducible refine' Blk.set2_1 ?_ ?hb; case hb => (first | omega | (simp; done) | (simp; omega))) | (with_reducible refine' Blk.set3_0 ?_ ?hb; case hb => (first | omega | (simp; done) | (simp; omega))) | (with_reducible refine' Blk.set3_1 ?_ ?hb; case hb => (first | omega | (simp; done) | (simp; omega))) | (with_reducible refine' Blk.set3_2 ?_ ?hb; case hb => (first | omega | (simp; done) | (simp; omega))) | (with_reducible refine' Blk.set4_0 ?_ ?hb; case hb => (first | omega | (simp; done) | (simp; omega))) | (with_reducible refine' Blk.set4_1 ?_ ?hb; case hb => (first | omega | (simp; done) | (simp; omega))) | (with_reducible refine' Blk.set4_2 ?_ ?hb; case hb => (first | omega | (simp; done) | (simp; omega))) | (with_reducible refine' Blk.set4_3 ?_ ?hb; case hb => (first | omega | (simp; done) | (simp; omega))) | (with_reducible refine' Blk.set7_0 ?_ ?hb; case hb => (first | omega | (simp; done) | (simp; omega))) | (with_reducible refine' Blk.set7_1 ?_ ?hb; case hb => (first | omega | (simp; done) | (simp; omega))) | (with_reducible refine' Blk.set7_2 ?_ ?hb; case hb => (first | omega | (simp; done) | (simp; omega))) | (with_reducible refine' Blk.set7_3 ?_ ?hb; case hb => (first | omega | (simp; done) | (simp; omega))) | (with_reducible refine' Blk.set7_4 ?_ ?hb; case hb => (first | omega | (simp; done) | (simp; omega))) | (with_reducible refine' Blk.set7_5 ?_ ?hb; case hb => (first | omega | (simp; done) | (simp; omega))) | (with_reducible refine' Blk.set7_6 ?_ ?hb; case hb => (first | omega | (simp; done) | (simp; omega))) | (with_reducible refine Blk.far ?_ ?hb _; case hb => (first | omega | (simp; done) | (simp; omega))) | fail))
              · first | exact (SBH.out.far hgw (by show w.heap.size < wp.heap.size; omega) (by show wp.heap.size ≠ q; omega) (by show wp.heap.size ≠ gr; omega) _).far hgw (by show w.heap.size < wp.heap.size; omega) (by show wp.heap.size ≠ q; omega) (by show wp.heap.size ≠ gr; omega) _ | exact SBH.out.far hgw (by show w.heap.size < wp.heap.size; omega) (by show wp.heap.size ≠ q; omega) (by show wp.heap.size ≠ gr; omega) _
            · have hb9 : ((n : Int) == 9) = false := by simp; omega
              go_wp2_with fail
              go_meet
              refine ⟨f + p * r, by omega, by omega, ?_, ?_⟩
              · (repeat' (first | (with_reducible exact TBH.out) | (with_reducible refine Blk.drewN ?_ _) | (with_reducible refine Blk.drew ?_) | (with_reducible refine Blk.new1 ?hb; case hb => (first | omega | (simp; done) | (simp; omega))) | (with_reducible refine Blk.alloc ?_ _) | (with_reducible refine' Blk.set2_0 ?_ ?hb; case hb => (first | omega | (simp; done) | (simp; omega))) | (with_reducible refine' Blk.set2_1 ?_ ?hb; case hb => (first | omega | (simp; done) | (simp; omega))) | (with_reducible refine' Blk.set3_0 ?_ ?hb; case hb => (first | omega | (simp; done) | (simp; omega))) | (with_reducible refine' Blk.set3_1 ?_ ?hb; case hb => (first | omega | (simp; done) | (simp; omega))) | (with_reducible refine' Blk.set3_2 ?_ ?hb; case hb => (first | omega | (simp; done) | (simp; omega))) | (with_reducible refine' Blk.set4_0 ?_ ?hb; case hb => (first | omega | (simp; done) | (simp; omega))) | (with_reducible refine' Blk.set4_1 ?_ ?hb; case hb => (first | omega | (simp; done) | (simp; omega))) | (with_reducible refine' Blk.set4_2 ?_ ?hb; case hb => (first | omega | (simp; done) | (simp; omega))) | (with_reducible refine' Blk.set4_3 ?_ ?hb; case hb => (first | omega | (simp; done) | (simp; omega))) | (with_reducible refine' Blk.set7_0 ?_ ?hb; case hb => (first | omega | (simp; done) | (simp; omega))) | (with_reducible refine' Blk.set7_1 ?_ ?hb; case hb => (first | omega | (simp; done) | (simp; omega))) | (with_reducible refine' Blk.set7_2 ?_ ?hb; case hb => (first | omega | (simp; done) | (simp; omega))) | (with_reducible refine' Blk.set7_3 ?_ ?hb; case hb => (first | omega | (simp; done) | (simp; omega))) | (with_reducible refine' Blk.set7_4 ?_ ?hb; case hb => (first | omega | (simp; done) | (simp; omega))) | (with_reducible refine' Blk.set7_5 ?_ ?hb; case hb => (first | omega | (simp; done) | (simp; omega))) | (with_reducible refine' Blk.set7_6 ?_ ?hb; case hb => (first | omega | (simp; done) | (simp; omega))) | (with_reducible refine Blk.far ?_ ?hb _; case hb => (first | omega | (simp; done) | (simp; omega))) | fail))
              · exact SBH.out.far hgw (by show w.heap.size < wp.heap.size; omega) (by show wp.heap.size ≠ q; omega) (by show wp.heap.size ≠ gr; omega) _
          case rest =>
            obtain ⟨t, ht0, ht1, hT2, hS2⟩ := hcut
            have S5 := Lib.hid hS2
            have T5 := Lib.hid hT2
            have hl5 := hT2.lt
            obtain ⟨⟨t0, t1⟩, tf0, tf1⟩ := hT2.get2n
            obtain ⟨⟨v0, v1⟩, vf0, vf1⟩ := hS2.var.get2n
            have hql := hS2.var.lt
            clear hS2 hT2 SBH TBH TC SC tb0 tb1 tbf
            by_cases ht : t ≤ 16
            · go_wp2_with (at_builtin; refine wpList_append_lies _ rfl _ _ 26 rfl (w.heap.size + 1) 38 i0 _ 2 16 Try.underlying26 hi hz0 hz1 hz2 rfl (by decide) (.slice (some ⟨gr, 0, none⟩) l c) l (flatG xs) rfl ?c0 ⟨wc.heap.size, 0, none⟩ 1 1 [.int .i64 f, .int .i64 t] rfl rfl ?c1 ?c2 (by omega) ?c3 ?c4 ?c5 (wc.heap.size + 1) ?c6 ?_)
              case c0 => exact OG.row (OG.alloc S5.out.row _) S5.out.len
              case c1 => exact World.news_of_block (cs := #[.int .i64 f, .int .i64 t]) (t := 38) (fr := (0, 0)) (by show Blk _ _ _ _; (repeat' (first | (with_reducible refine Blk.drewN ?_ _) | (with_reducible refine Blk.drew ?_) | (with_reducible refine Blk.new1 ?hb; case hb => (first | omega | (simp; done) | (simp; omega))) | (with_reducible refine Blk.alloc ?_ _) | (with_reducible refine' Blk.set2_0 ?_ ?hb; case hb => (first | omega | (simp; done) | (simp; omega))) | (with_reducible refine' Blk.set2_1 ?_ ?hb; case hb => (first | omega | (simp; done) | (simp; omega))) | (with_reducible refine' Blk.set3_0 ?_ ?hb; case hb => (first | omega | (simp; done) | (simp; omega))) | (with_reducible refine' Blk.set3_1 ?_ ?hb; case hb => (first | omega | (simp; done) | (simp; omega))) | (with_reducible refine' Blk.set3_2 ?_ ?hb; case hb => (first | omega | (simp; done) | (simp; omega))) | (with_reducible refine' Blk.set4_0 ?_ ?hb; case hb => (first | omega | (simp; done) | (simp; omega))) | (with_reducible refine' Blk.set4_1 ?_ ?hb; case hb => (first | omega | (simp; done) | (simp; omega))) | (with_reducible refine' Blk.set4_2 ?_ ?hb; case hb => (first | omega | (simp; done) | (simp; omega))) | (with_reducible refine' Blk.set4_3 ?_ ?hb; case hb => (first | omega | (simp; done) | (simp; omega))) | (with_reducible refine' Blk.set7_0 ?_ ?hb; case hb => (first | omega | (simp; done) | (simp; omega))) | (with_reducible refine' Blk.set7_1 ?_ ?hb; case hb => (first | omega | (simp; done) | (simp; omega))) | (with_reducible refine' Blk.set7_2 ?_ ?hb; case hb => (first | omega | (simp; done) | (simp; omega))) | (with_reducible refine' Blk.set7_3 ?_ ?hb; case hb => (first | omega | (simp; done) | (simp; omega))) | (with_reducible refine' Blk.set7_4 ?_ ?hb; case hb => (first | omega | (simp; done) | (simp; omega))) | (with_reducible refine' Blk.set7_5 ?_ ?hb; case hb => (first | omega | (simp; done) | (simp; omega))) | (with_reducible refine' Blk.set7_6 ?_ ?hb; case hb => (first | omega | (simp; done) | (simp; omega))) | (with_reducible refine Blk.far ?_ ?hb _; case hb => (first | omega | (simp; done) | (simp; omega))) | fail)))
              case c2 => simp [Value.oneCell']
              case c3 => unfold maxLen; omega
              case c4 => omega
              case c5 => have := S5.out.res.lt; (first | omega | (simp; done) | (simp; omega))
              case c6 => (first | omega | (simp; done) | (simp; omega))
              intro g4 c4 w4 hown4 hgrow hat4 hl4
              have hat5 : gr = g4 ∨ q < g4 ∧ w.heap.size < g4 := by
                rcases hat4 with h | h
                · exact .inl (by simpa [Value.ownBlock] using h)
                · have := S5.out.var.lt; have := S5.out.qgt; omega
              have SN := Lib.hid (S5.out.put (by first | exact (Below.refl _ _).alloc (Nat.le_refl _) _) hgw hgrow hown4 hat5 hl4)
              have hv4 : Blk w4 q 28 #[.int .i64 cum, .slice (some ⟨gr, 0, none⟩) l c] := Blk.own (S5.out.var.alloc _) hgrow (by have := S5.out.ne; simp [Value.ownBlock]; omega)
              obtain ⟨⟨a0, a1⟩, af0, af1⟩ := hv4.get2n
              clear hv4 hown4 hgrow hat4 hat5 hl4
              go_wp2
              go_roundw
              case rel => exact ⟨j + 1, g4, l + 1, c4, t, xs ++ [(f, t)], by omega, by omega, rfl, by go_num, by omega, by omega, SN.out.mono (by omega)⟩
              case measure => simp [intOf]; omega
            · go_wp2_with fail
              refine (c_pick g (k + 5 + 4 * j + 1 + 1 + 1) 8 _ S5.out.rd (by omega) (by omega)).mono ?_
              rintro e wd ⟨v, rfl, hv0, hv1, hRd, hgd⟩
              have S6 := Lib.hid (S5.out.grown hgd hRd hgw)
              have T6 : Blk wd wp.heap.size 38 #[.int .i64 f, .int .i64 t] := T5.out.grown hgd hbne
              clear hgd hRd S5 T5 t0 t1 tf0 tf1 v0 v1 vf0 vf1
              obtain ⟨⟨t0, t1⟩, tf0, tf1⟩ := T6.get2n
              obtain ⟨⟨v0, v1⟩, vf0, vf1⟩ := S6.out.var.get2n
              have hl6 := T6.lt
              have hql := S6.out.var.lt
              clear T6
              by_cases hv : v = 0
              · subst hv
                go_wp2_with (at_builtin; refine wpList_append_lies _ rfl _ _ 26 rfl (w.heap.size + 1) 38 i0 _ 2 16 Try.underlying26 hi hz0 hz1 hz2 rfl (by decide) (.slice (some ⟨gr, 0, none⟩) l c) l (flatG xs) rfl ?c0 ⟨wd.heap.size, 0, none⟩ 1 1 [.int .i64 f, .int .i64 t] rfl rfl ?c1 ?c2 (by omega) ?c3 ?c4 ?c5 (wd.heap.size + 1) ?c6 ?_)
                case c0 => exact OG.row (OG.alloc S6.out.row _) S6.out.len
                case c1 => exact World.news_of_block (cs := #[.int .i64 f, .int .i64 t]) (t := 38) (fr := (0, 0)) (by show Blk _ _ _ _; (repeat' (first | (with_reducible refine Blk.drewN ?_ _) | (with_reducible refine Blk.drew ?_) | (with_reducible refine Blk.new1 ?hb; case hb => (first | omega | (simp; done) | (simp; omega))) | (with_reducible refine Blk.alloc ?_ _) | (with_reducible refine' Blk.set2_0 ?_ ?hb; case hb => (first | omega | (simp; done) | (simp; omega))) | (with_reducible refine' Blk.set2_1 ?_ ?hb; case hb => (first | omega | (simp; done) | (simp; omega))) | (with_reducible refine' Blk.set3_0 ?_ ?hb; case hb => (first | omega | (simp; done) | (simp; omega))) | (with_reducible refine' Blk.set3_1 ?_ ?hb; case hb => (first | omega | (simp; done) | (simp; omega))) | (with_reducible refine' Blk.set3_2 ?_ ?hb; case hb => (first | omega | (simp; done) | (simp; omega))) | (with_reducible refine' Blk.set4_0 ?_ ?hb; case hb => (first | omega | (simp; done) | (simp; omega))) | (with_reducible refine' Blk.set4_1 ?_ ?hb; case hb => (first | omega | (simp; done) | (simp; omega))) | (with_reducible refine' Blk.set4_2 ?_ ?hb; case hb => (first | omega | (simp; done) | (simp; omega))) | (with_reducible refine' Blk.set4_3 ?_ ?hb; case hb => (first | omega | (simp; done) | (simp; omega))) | (with_reducible refine' Blk.set7_0 ?_ ?hb; case hb => (first | omega | (simp; done) | (simp; omega))) | (with_reducible refine' Blk.set7_1 ?_ ?hb; case hb => (first | omega | (simp; done) | (simp; omega))) | (with_reducible refine' Blk.set7_2 ?_ ?hb; case hb => (first | omega | (simp; done) | (simp; omega))) | (with_reducible refine' Blk.set7_3 ?_ ?hb; case hb => (first | omega | (simp; done) | (simp; omega))) | (with_reducible refine' Blk.set7_4 ?_ ?hb; case hb => (first | omega | (simp; done) | (simp; omega))) | (with_reducible refine' Blk.set7_5 ?_ ?hb; case hb => (first | omega | (simp; done) | (simp; omega))) | (with_reducible refine' Blk.set7_6 ?_ ?hb; case hb => (first | omega | (simp; done) | (simp; omega))) | (with_reducible refine Blk.far ?_ ?hb _; case hb => (first | omega | (simp; done) | (simp; omega))) | fail)))
                case c2 => simp [Value.oneCell']
                case c3 => unfold maxLen; omega
                case c4 => omega
                case c5 => have := S6.out.res.lt; (first | omega | (simp; done) | (simp; omega))
                case c6 => (first | omega | (simp; done) | (simp; omega))
                intro g4 c4 w4 hown4 hgrow hat4 hl4
                have hat5 : gr = g4 ∨ q < g4 ∧ w.heap.size < g4 := by
                  rcases hat4 with h | h
                  · exact .inl (by simpa [Value.ownBlock] using h)
                  · have := S6.out.var.lt; have := S6.out.qgt; omega
                have SN := Lib.hid (S6.out.put (by first | exact (Below.refl _ _).alloc (Nat.le_refl _) _) hgw hgrow hown4 hat5 hl4)
                have hv4 : Blk w4 q 28 #[.int .i64 cum, .slice (some ⟨gr, 0, none⟩) l c] := Blk.own (S6.out.var.alloc _) hgrow (by have := S6.out.ne; simp [Value.ownBlock]; omega)
                obtain ⟨⟨a0, a1⟩, af0, af1⟩ := hv4.get2n
                clear hv4 hown4 hgrow hat4 hat5 hl4
                go_wp2
                go_roundw
                case rel => exact ⟨j + 1, g4, l + 1, c4, t, xs ++ [(f, t)], by omega, by omega, rfl, by go_num, by omega, by omega, SN.out.mono (by omega)⟩
                case measure => simp [intOf]; omega
              · have hvb : (v == 0) = false := by simp; omega
                go_wp2
                go_roundw
                case rel => exact ⟨j + 1, gr, l, c, t, xs, by omega, by omega, rfl, by go_num, by omega, by omega, S6.out.mono (by omega)⟩
                case measure => simp [intOf]; omega
      · have hje : j = n := by omega
        subst hje
        go_wp2_with fail
        refine (c_pick g (k + 5 + 4 * j) 20 _ SR.out.rd (by omega) (by omega)).mono ?_
        rintro e wd ⟨v, rfl, hv0, hv1, hRd, hgd⟩
        have S6 := Lib.hid (SR.out.grown hgd hRd hgw)
        have hcg := SR.out.cge
        have hcl := SR.out.cle
        clear hgd hRd SR hlt
        by_cases hv : v = 0
        · subst hv
          go_wp2_with fail
          refine (c_l91Word g (k + 5 + 4 * j + 1) _ S6.out.rd (by omega)).mono ?_
          rintro e we ⟨x, rfl, hx0, hx1, hRe, hge⟩
          have S7 := Lib.hid (S6.out.grown hge hRe hgw)
          clear hge hRe S6
          obtain ⟨⟨v0, v1⟩, vf0, vf1⟩ := S7.out.var.get2n
          obtain ⟨⟨x0, x1⟩, xf0, xf1⟩ := S7.out.res.get2n
          have hql := S7.out.var.lt
          have hwl := S7.out.res.lt
          have hqg := S7.out.qgt
          have hgg := S7.out.gt
          have hne := S7.out.ne
          have hqr : q ≠ w.heap.size := by omega
          have GF := Lib.hid S7.out.own
          go_wp2
          refine bodyPost_ret (v := .agg #[.int .i64 x, .slice (some ⟨gr, 0, none⟩) l c]) (by simp [results, Try.results35, go_sem, x0, x1, v0, v1, hql, hqr, hwl]) rfl ⟨_, _, xs, rfl, by omega, by omega, by have := S7.out.len; omega, ?_, ?_, ?_⟩
          · (repeat' (first | (with_reducible exact S7.out.row) | (with_reducible refine OG.far ?_ ?_ _) | omega | (simp; done) | (simp; omega)))
          · (repeat' (first | with_reducible exact S7.out.rd.mono (by omega) | with_reducible refine Rd.mono S7.out.rd.mono (by omega) ?_ | with_reducible refine Rd.setCell ?_ ?_ _ | with_reducible refine Rd.alloc ?_ _ | with_reducible refine Rd.drewN ?_ _ | with_reducible refine Rd.drew ?_ | omega | (simp; done) | (simp; omega)))
          · (repeat' (first | with_reducible exact GF.out | with_reducible exact only_refl _ _ | with_reducible refine only_setCell ?_ (.inr ?_) _ | with_reducible refine only_alloc ?_ _ | with_reducible refine only_drewN ?_ _ | with_reducible refine only_drew ?_ | omega | (simp; done) | (simp; omega)))
        · have hvb : (v == 0) = false := by simp; omega
          by_cases hv2 : v = 1
          · subst hv2
            obtain ⟨⟨v0, v1⟩, vf0, vf1⟩ := S6.out.var.get2n
            obtain ⟨⟨x0, x1⟩, xf0, xf1⟩ := S6.out.res.get2n
            have hql := S6.out.var.lt
            have hwl := S6.out.res.lt
            have hqg := S6.out.qgt
            have hgg := S6.out.gt
            have hne := S6.out.ne
            have hqr : q ≠ w.heap.size := by omega
            have GF := Lib.hid S6.out.own
            go_wp2_with fail
            refine wp_region_noPanic ?_
            refine wp_region_held_drew (S := fun _ => True) (by kernel_rfl) ?_ (fun hHeld => ?_)
            · trivial
            refine' wpAnyH_take (i := 0) (v := _) rfl (by kernel_rfl) (by kernel_rfl) (by kernel_rfl) (fun _ _ _ h => h) (Or.inl ⟨by rfl, ?hyr1⟩) (by assumption) ?restr1
            case hyr1 => (intro w hSw; (try dsimp only at hSw); go_simp; try with_reducible rfl)
            try simp only [Act.put, List.getElem_toArray, List.getElem_cons_zero, List.getElem_cons_succ, List.setIfInBounds_toArray, List.set_cons_zero, List.set_cons_succ]
            refine' wpAnyH_take (i := 2) (v := _) rfl (by kernel_rfl) (by kernel_rfl) (by kernel_rfl) (fun _ _ _ h => h) (Or.inl ⟨by rfl, ?hyr2⟩) (by assumption) ?restr2
            case hyr2 => (intro w hSw; (try dsimp only at hSw); go_simp; try with_reducible rfl)
            try simp only [Act.put, List.getElem_toArray, List.getElem_cons_zero, List.getElem_cons_succ, List.setIfInBounds_toArray, List.set_cons_zero, List.set_cons_succ]
            refine' wpAnyH_take (i := 4) (v := _) rfl (by kernel_rfl) (by kernel_rfl) (by kernel_rfl) (fun _ _ _ h => h) (Or.inl ⟨by rfl, ?hyr3⟩) (by assumption) ?restr3
            case hyr3 => (intro w hSw; (try dsimp only at hSw); go_simp; try with_reducible rfl)
            try simp only [Act.put, List.getElem_toArray, List.getElem_cons_zero, List.getElem_cons_succ, List.setIfInBounds_toArray, List.set_cons_zero, List.set_cons_succ]
            refine wpAnyH_ready (rs := [1, 3]) (by kernel_rfl) (by simp) ?_
            refine AllReadyH.cons (o := _) rfl (fun K hK => ?_) ?_
            · go_simp
              refine hK.out _ _ ?_ (fun hHeld => ?_)
              · trivial
              clear hK K
              try simp only [Act.put, List.getElem_toArray, List.getElem_cons_zero, List.getElem_cons_succ, List.setIfInBounds_toArray, List.set_cons_zero, List.set_cons_succ]
              refine wpAnyH_ready (rs := [3]) (by kernel_rfl) (by simp) ?_
              refine AllReadyH.cons (o := _) rfl (fun K hK => ?_) ?_
              · go_simp
                with_reducible refine (c_pick g (k + 5 + 4 * j + 1) 18 _ (by (repeat' (first | with_reducible exact S6.out.rd | with_reducible refine Rd.mono S6.out.rd ?_ | with_reducible refine Rd.setCell ?_ ?_ _ | with_reducible refine Rd.alloc ?_ _ | with_reducible refine Rd.drewN ?_ _ | with_reducible refine Rd.drew ?_ | omega | (simp; done) | (simp; omega)))) (by omega) (by omega)).mono ?_
                rintro e wa ⟨p, rfl, hp0, hp1, hRp, hgp⟩
                have SA := Lib.hid (SSt.grown (by first | exact S6.out | exact S6.out.drew | exact S6.out.drewN _) hgp hRp hgw)
                have sa1 : wa.cell? ⟨q, 1, none⟩ = some (.slice (some ⟨gr, 0, none⟩) l c) := SA.out.var.cell 1
                have hqSA := SA.out.var.lt
                go_wp2_with fail
                refine hK.out _ _ ?_ (fun hHeld => ?_)
                · trivial
                clear hK K
                try simp only [Act.put, List.getElem_toArray, List.getElem_cons_zero, List.getElem_cons_succ, List.setIfInBounds_toArray, List.set_cons_zero, List.set_cons_succ]
                refine wpAnyH_ready (rs := [5]) (by kernel_rfl) (by simp) ?_
                refine AllReadyH.cons (o := _) rfl (fun K hK => ?_) ?_
                · go_simp
                  with_reducible refine (c_pick g (k + 5 + 4 * j + 1 + 1) 18 _ (by (repeat' (first | with_reducible exact SA.out.rd | with_reducible refine Rd.mono SA.out.rd ?_ | with_reducible refine Rd.setCell ?_ ?_ _ | with_reducible refine Rd.alloc ?_ _ | with_reducible refine Rd.drewN ?_ _ | with_reducible refine Rd.drew ?_ | omega | (simp; done) | (simp; omega)))) (by omega) (by omega)).mono ?_
                  rintro e wb ⟨r, rfl, hr0, hr1, hRr, hgr⟩
                  have SB := Lib.hid (SSt.grown (by first | exact SA.out | exact SA.out.drew | exact SA.out.drewN _) hgr hRr hgw)
                  have sb1 : wb.cell? ⟨q, 1, none⟩ = some (.slice (some ⟨gr, 0, none⟩) l c) := SB.out.var.cell 1
                  have hqSB := SB.out.var.lt
                  have e1 := fun (o : Obj) => show (wb.alloc o).cell? ⟨q, 1, none⟩ = some (.slice (some ⟨gr, 0, none⟩) l c) from (World.cell?_alloc_lt wb o _ hqSB).trans sb1
                  have e2 := fun (o : Obj) => show (wb.drew.alloc o).cell? ⟨q, 1, none⟩ = some (.slice (some ⟨gr, 0, none⟩) l c) from (World.cell?_alloc_lt wb o _ hqSB).trans sb1
                  go_wp2_with fail
                  refine hK.out _ _ ?_ (fun hHeld => ?_)
                  · trivial
                  clear hK K
                  try simp only [Act.put, List.getElem_toArray, List.getElem_cons_zero, List.getElem_cons_succ, List.setIfInBounds_toArray, List.set_cons_zero, List.set_cons_succ]
                  refine' wpAnyH_take (i := 6) (v := _) rfl (by kernel_rfl) (by kernel_rfl) (by kernel_rfl) (fun _ _ _ h => h) (Or.inl ⟨by rfl, ?hyr4⟩) (by assumption) ?restr4
                  case hyr4 => (intro w hSw; (try dsimp only at hSw); go_simp; try with_reducible rfl)
                  try simp only [Act.put, List.getElem_toArray, List.getElem_cons_zero, List.getElem_cons_succ, List.setIfInBounds_toArray, List.set_cons_zero, List.set_cons_succ]
                  refine wpAnyH_ready (rs := [7]) (by kernel_rfl) (by simp) ?_
                  refine AllReadyH.cons (o := _) rfl (fun K hK => ?_) ?_
                  · go_simp
                    refine hK.out _ _ ?_ (fun hHeld => ?_)
                    · trivial
                    clear hK K
                    try simp only [Act.put, List.getElem_toArray, List.getElem_cons_zero, List.getElem_cons_succ, List.setIfInBounds_toArray, List.set_cons_zero, List.set_cons_succ]
                    refine wpAnyH_ready (rs := [8]) (by kernel_rfl) (by simp) ?_
                    refine AllReadyH.cons (o := _) rfl (fun K hK => ?_) ?_
                    · refine step_append_lies _ (by rfl) _ _ _ (by rfl) (w.heap.size + 1) 38 i0 _ 2 16 Try.underlying26 hi hz0 hz1 hz2 rfl (by decide) (.slice (some ⟨gr, 0, none⟩) l c) l (flatG xs) (by rfl) ?c0 ⟨wb.heap.size, 0, none⟩ 1 1 [.int .i64 p, .int .i64 r] (by rfl) (by rfl) ?c1 ?c2 (by omega) ?c3 ?c4 ?c5 (wb.heap.size + 1) ?c6 ?_
                      case c0 => exact OG.row (by (repeat' (first | (with_reducible exact SB.out.row) | with_reducible refine OG.alloc ?_ _ | with_reducible refine OG.drew ?_ | with_reducible refine OG.drewN ?_ _ | with_reducible refine OG.old ?_ ?_ _ | omega | (simp; done) | (simp; omega)))) SB.out.len
                      case c1 => exact World.news_of_block (cs := #[.int .i64 p, .int .i64 r]) (t := 38) (fr := (0, 0)) (by show Blk _ _ _ _; (repeat' (first | (with_reducible refine Blk.drewN ?_ _) | (with_reducible refine Blk.drew ?_) | (with_reducible refine Blk.new1 ?hb; case hb => (first | omega | (simp; done) | (simp; omega))) | (with_reducible refine Blk.alloc ?_ _) | (with_reducible refine' Blk.set2_0 ?_ ?hb; case hb => (first | omega | (simp; done) | (simp; omega))) | (with_reducible refine' Blk.set2_1 ?_ ?hb; case hb => (first | omega | (simp; done) | (simp; omega))) | (with_reducible refine' Blk.set3_0 ?_ ?hb; case hb => (first | omega | (simp; done) | (simp; omega))) | (with_reducible refine' Blk.set3_1 ?_ ?hb; case hb => (first | omega | (simp; done) | (simp; omega))) | (with_reducible refine' Blk.set3_2 ?_ ?hb; case hb => (first | omega | (simp; done) | (simp; omega))) | (with_reducible refine' Blk.set4_0 ?_ ?hb; case hb => (first | omega | (simp; done) | (simp; omega))) | (with_reducible refine' Blk.set4_1 ?_ ?hb; case hb => (first | omega | (simp; done) | (simp; omega))) | (with_reducible refine' Blk.set4_2 ?_ ?hb; case hb => (first | omega | (simp; done) | (simp; omega))) | (with_reducible refine' Blk.set4_3 ?_ ?hb; case hb => (first | omega | (simp; done) | (simp; omega))) | (with_reducible refine' Blk.set7_0 ?_ ?hb; case hb => (first | omega | (simp; done) | (simp; omega))) | (with_reducible refine' Blk.set7_1 ?_ ?hb; case hb => (first | omega | (simp; done) | (simp; omega))) | (with_reducible refine' Blk.set7_2 ?_ ?hb; case hb => (first | omega | (simp; done) | (simp; omega))) | (with_reducible refine' Blk.set7_3 ?_ ?hb; case hb => (first | omega | (simp; done) | (simp; omega))) | (with_reducible refine' Blk.set7_4 ?_ ?hb; case hb => (first | omega | (simp; done) | (simp; omega))) | (with_reducible refine' Blk.set7_5 ?_ ?hb; case hb => (first | omega | (simp; done) | (simp; omega))) | (with_reducible refine' Blk.set7_6 ?_ ?hb; case hb => (first | omega | (simp; done) | (simp; omega))) | (with_reducible refine Blk.far ?_ ?hb _; case hb => (first | omega | (simp; done) | (simp; omega))) | fail)))
                      case c2 => simp [Value.oneCell']
                      case c3 => have := SB.out.len; unfold maxLen; omega
                      case c4 => omega
                      case c5 => have := SB.out.res.lt; (first | omega | (simp; done) | (simp; omega))
                      case c6 => (first | omega | (simp; done) | (simp; omega))
                      intro g4 c4 w4 hown4 hgrow hat4 hl4
                      have hat5 : gr = g4 ∨ q < g4 ∧ w.heap.size < g4 := by
                        rcases hat4 with h | h
                        · exact .inl (by simpa [Value.ownBlock] using h)
                        · have := SB.out.var.lt; have := SB.out.qgt; omega
                      have SN := Lib.hid (SB.out.put (by (repeat' (first | (with_reducible assumption) | with_reducible exact Below.refl _ _ | with_reducible refine below_drew1 ?_ | with_reducible refine below_drewN ?_ _ | with_reducible refine Below.alloc ?_ ?_ _ | with_reducible refine Below.setCell ?_ ?_ _ | omega | (simp; done) | (simp; omega)))) hgw hgrow hown4 hat5 hl4)
                      have hv4 : Blk w4 q 28 #[.int .i64 cum, .slice (some ⟨gr, 0, none⟩) l c] := Blk.own (by (repeat' (first | (with_reducible exact SB.out.var) | (with_reducible refine Blk.drewN ?_ _) | (with_reducible refine Blk.drew ?_) | (with_reducible refine Blk.new1 ?hb; case hb => (first | omega | (simp; done) | (simp; omega))) | (with_reducible refine Blk.alloc ?_ _) | (with_reducible refine' Blk.set2_0 ?_ ?hb; case hb => (first | omega | (simp; done) | (simp; omega))) | (with_reducible refine' Blk.set2_1 ?_ ?hb; case hb => (first | omega | (simp; done) | (simp; omega))) | (with_reducible refine' Blk.set3_0 ?_ ?hb; case hb => (first | omega | (simp; done) | (simp; omega))) | (with_reducible refine' Blk.set3_1 ?_ ?hb; case hb => (first | omega | (simp; done) | (simp; omega))) | (with_reducible refine' Blk.set3_2 ?_ ?hb; case hb => (first | omega | (simp; done) | (simp; omega))) | (with_reducible refine' Blk.set4_0 ?_ ?hb; case hb => (first | omega | (simp; done) | (simp; omega))) | (with_reducible refine' Blk.set4_1 ?_ ?hb; case hb => (first | omega | (simp; done) | (simp; omega))) | (with_reducible refine' Blk.set4_2 ?_ ?hb; case hb => (first | omega | (simp; done) | (simp; omega))) | (with_reducible refine' Blk.set4_3 ?_ ?hb; case hb => (first | omega | (simp; done) | (simp; omega))) | (with_reducible refine' Blk.set7_0 ?_ ?hb; case hb => (first | omega | (simp; done) | (simp; omega))) | (with_reducible refine' Blk.set7_1 ?_ ?hb; case hb => (first | omega | (simp; done) | (simp; omega))) | (with_reducible refine' Blk.set7_2 ?_ ?hb; case hb => (first | omega | (simp; done) | (simp; omega))) | (with_reducible refine' Blk.set7_3 ?_ ?hb; case hb => (first | omega | (simp; done) | (simp; omega))) | (with_reducible refine' Blk.set7_4 ?_ ?hb; case hb => (first | omega | (simp; done) | (simp; omega))) | (with_reducible refine' Blk.set7_5 ?_ ?hb; case hb => (first | omega | (simp; done) | (simp; omega))) | (with_reducible refine' Blk.set7_6 ?_ ?hb; case hb => (first | omega | (simp; done) | (simp; omega))) | (with_reducible refine Blk.far ?_ ?hb _; case hb => (first | omega | (simp; done) | (simp; omega))) | fail))) hgrow (by have := SB.out.ne; simp [Value.ownBlock]; omega)
                      have a1 : w4.cell? ⟨q, 1, none⟩ = some (.slice (some ⟨gr, 0, none⟩) l c) := hv4.cell 1
                      have af1 := hv4.frozen 1
                      clear hv4 hown4 hgrow hat4 hat5
                      refine hK.out _ _ ?_ (fun hHeld => ?_)
                      · trivial
                      clear hK K
                      try simp only [Act.put, List.getElem_toArray, List.getElem_cons_zero, List.getElem_cons_succ, List.setIfInBounds_toArray, List.set_cons_zero, List.set_cons_succ]
                      refine' wpAnyH_take (i := 9) (v := _) rfl (by kernel_rfl) (by kernel_rfl) (by kernel_rfl) (fun _ _ _ h => h) (Or.inl ⟨by rfl, ?hyr5⟩) (by assumption) ?restr5
                      case hyr5 => (intro w hSw; (try dsimp only at hSw); go_simp; try with_reducible rfl)
                      try simp only [Act.put, List.getElem_toArray, List.getElem_cons_zero, List.getElem_cons_succ, List.setIfInBounds_toArray, List.set_cons_zero, List.set_cons_succ]
                      refine wpAnyH_ready (rs := [10]) (by kernel_rfl) (by simp) ?_
                      refine AllReadyH.cons (o := _) rfl (fun K hK => ?_) ?_
                      · go_simp
                        refine hK.out _ _ ?_ (fun hHeld => ?_)
                        · trivial
                        clear hK K
                        try simp only [Act.put, List.getElem_toArray, List.getElem_cons_zero, List.getElem_cons_succ, List.setIfInBounds_toArray, List.set_cons_zero, List.set_cons_succ]
                        refine wpAnyH_done (by kernel_rfl) ?_ _
                        refine NoPanic.normal ?_
                        clear GF v0 v1 vf0 vf1 x0 x1 xf0 xf1 hql hwl hqg hgg hne hqr a1 af1 e1 e2 sa1 sb1 hHeld
                        obtain ⟨⟨v0, v1⟩, vf0, vf1⟩ := SN.out.var.get2n
                        obtain ⟨⟨x0, x1⟩, xf0, xf1⟩ := SN.out.res.get2n
                        have hql := SN.out.var.lt
                        have hwl := SN.out.res.lt
                        have hqg := SN.out.qgt
                        have hgg := SN.out.gt
                        have hne := SN.out.ne
                        have hqr : q ≠ w.heap.size := by omega
                        have GF := Lib.hid SN.out.own
                        have LEN := Lib.hid SN.out.len
                        generalize hW : w4.setCell _ _ = W at *
                        go_wp2
                        refine bodyPost_ret (v := .agg #[.int .i64 cum, .slice (some ⟨g4, 0, none⟩) (l + 1) c4]) (by simp [results, Try.results35, go_sem, x0, x1, v0, v1, hql, hqr, hwl]) rfl ⟨_, _, xs ++ [(p, r)], rfl, by omega, by omega, by have := LEN.out; omega, ?_, ?_, ?_⟩
                        · (repeat' (first | (with_reducible exact SN.out.row) | (with_reducible refine OG.far ?_ ?_ _) | omega | (simp; done) | (simp; omega)))
                        · (repeat' (first | with_reducible exact SN.out.rd.mono (by omega) | with_reducible refine Rd.mono SN.out.rd.mono (by omega) ?_ | with_reducible refine Rd.setCell ?_ ?_ _ | with_reducible refine Rd.alloc ?_ _ | with_reducible refine Rd.drewN ?_ _ | with_reducible refine Rd.drew ?_ | omega | (simp; done) | (simp; omega)))
                        · (repeat' (first | with_reducible exact GF.out | with_reducible exact only_refl _ _ | with_reducible refine only_setCell ?_ (.inr ?_) _ | with_reducible refine only_alloc ?_ _ | with_reducible refine only_drewN ?_ _ | with_reducible refine only_drew ?_ | omega | (simp; done) | (simp; omega)))
                      exact AllReadyH.nil
                    exact AllReadyH.nil
                  exact AllReadyH.nil
                exact AllReadyH.nil
              exact AllReadyH.nil
            refine AllReadyH.cons (o := _) rfl (fun K hK => ?_) ?_
            · go_simp
              with_reducible refine (c_pick g (k + 5 + 4 * j + 1) 18 _ (by (repeat' (first | with_reducible exact S6.out.rd | with_reducible refine Rd.mono S6.out.rd ?_ | with_reducible refine Rd.setCell ?_ ?_ _ | with_reducible refine Rd.alloc ?_ _ | with_reducible refine Rd.drewN ?_ _ | with_reducible refine Rd.drew ?_ | omega | (simp; done) | (simp; omega)))) (by omega) (by omega)).mono ?_
              rintro e wa ⟨p, rfl, hp0, hp1, hRp, hgp⟩
              have SA := Lib.hid (SSt.grown (by first | exact S6.out | exact S6.out.drew | exact S6.out.drewN _) hgp hRp hgw)
              have sa1 : wa.cell? ⟨q, 1, none⟩ = some (.slice (some ⟨gr, 0, none⟩) l c) := SA.out.var.cell 1
              have hqSA := SA.out.var.lt
              go_wp2_with fail
              refine hK.out _ _ ?_ (fun hHeld => ?_)
              · trivial
              clear hK K
              try simp only [Act.put, List.getElem_toArray, List.getElem_cons_zero, List.getElem_cons_succ, List.setIfInBounds_toArray, List.set_cons_zero, List.set_cons_succ]
              refine wpAnyH_ready (rs := [1, 5]) (by kernel_rfl) (by simp) ?_
              refine AllReadyH.cons (o := _) rfl (fun K hK => ?_) ?_
              · go_simp
                refine hK.out _ _ ?_ (fun hHeld => ?_)
                · trivial
                clear hK K
                try simp only [Act.put, List.getElem_toArray, List.getElem_cons_zero, List.getElem_cons_succ, List.setIfInBounds_toArray, List.set_cons_zero, List.set_cons_succ]
                refine wpAnyH_ready (rs := [5]) (by kernel_rfl) (by simp) ?_
                refine AllReadyH.cons (o := _) rfl (fun K hK => ?_) ?_
                · go_simp
                  with_reducible refine (c_pick g (k + 5 + 4 * j + 1 + 1) 18 _ (by (repeat' (first | with_reducible exact SA.out.rd | with_reducible refine Rd.mono SA.out.rd ?_ | with_reducible refine Rd.setCell ?_ ?_ _ | with_reducible refine Rd.alloc ?_ _ | with_reducible refine Rd.drewN ?_ _ | with_reducible refine Rd.drew ?_ | omega | (simp; done) | (simp; omega)))) (by omega) (by omega)).mono ?_
                  rintro e wb ⟨r, rfl, hr0, hr1, hRr, hgr⟩
                  have SB := Lib.hid (SSt.grown (by first | exact SA.out | exact SA.out.drew | exact SA.out.drewN _) hgr hRr hgw)
                  have sb1 : wb.cell? ⟨q, 1, none⟩ = some (.slice (some ⟨gr, 0, none⟩) l c) := SB.out.var.cell 1
                  have hqSB := SB.out.var.lt
                  have e1 := fun (o : Obj) => show (wb.alloc o).cell? ⟨q, 1, none⟩ = some (.slice (some ⟨gr, 0, none⟩) l c) from (World.cell?_alloc_lt wb o _ hqSB).trans sb1
                  have e2 := fun (o : Obj) => show (wb.drew.alloc o).cell? ⟨q, 1, none⟩ = some (.slice (some ⟨gr, 0, none⟩) l c) from (World.cell?_alloc_lt wb o _ hqSB).trans sb1
                  go_wp2_with fail
                  refine hK.out _ _ ?_ (fun hHeld => ?_)
                  · trivial
                  clear hK K
                  try simp only [Act.put, List.getElem_toArray, List.getElem_cons_zero, List.getElem_cons_succ, List.setIfInBounds_toArray, List.set_cons_zero, List.set_cons_succ]
                  refine' wpAnyH_take (i := 6) (v := _) rfl (by kernel_rfl) (by kernel_rfl) (by kernel_rfl) (fun _ _ _ h => h) (Or.inl ⟨by rfl, ?hyr6⟩) (by assumption) ?restr6
                  case hyr6 => (intro w hSw; (try dsimp only at hSw); go_simp; try with_reducible rfl)
                  try simp only [Act.put, List.getElem_toArray, List.getElem_cons_zero, List.getElem_cons_succ, List.setIfInBounds_toArray, List.set_cons_zero, List.set_cons_succ]
                  refine wpAnyH_ready (rs := [7]) (by kernel_rfl) (by simp) ?_
                  refine AllReadyH.cons (o := _) rfl (fun K hK => ?_) ?_
                  · go_simp
                    refine hK.out _ _ ?_ (fun hHeld => ?_)
                    · trivial
                    clear hK K
                    try simp only [Act.put, List.getElem_toArray, List.getElem_cons_zero, List.getElem_cons_succ, List.setIfInBounds_toArray, List.set_cons_zero, List.set_cons_succ]
                    refine wpAnyH_ready (rs := [8]) (by kernel_rfl) (by simp) ?_
                    refine AllReadyH.cons (o := _) rfl (fun K hK => ?_) ?_
                    · refine step_append_lies _ (by rfl) _ _ _ (by rfl) (w.heap.size + 1) 38 i0 _ 2 16 Try.underlying26 hi hz0 hz1 hz2 rfl (by decide) (.slice (some ⟨gr, 0, none⟩) l c) l (flatG xs) (by rfl) ?c0 ⟨wb.heap.size, 0, none⟩ 1 1 [.int .i64 p, .int .i64 r] (by rfl) (by rfl) ?c1 ?c2 (by omega) ?c3 ?c4 ?c5 (wb.heap.size + 1) ?c6 ?_
                      case c0 => exact OG.row (by (repeat' (first | (with_reducible exact SB.out.row) | with_reducible refine OG.alloc ?_ _ | with_reducible refine OG.drew ?_ | with_reducible refine OG.drewN ?_ _ | with_reducible refine OG.old ?_ ?_ _ | omega | (simp; done) | (simp; omega)))) SB.out.len
                      case c1 => exact World.news_of_block (cs := #[.int .i64 p, .int .i64 r]) (t := 38) (fr := (0, 0)) (by show Blk _ _ _ _; (repeat' (first | (with_reducible refine Blk.drewN ?_ _) | (with_reducible refine Blk.drew ?_) | (with_reducible refine Blk.new1 ?hb; case hb => (first | omega | (simp; done) | (simp; omega))) | (with_reducible refine Blk.alloc ?_ _) | (with_reducible refine' Blk.set2_0 ?_ ?hb; case hb => (first | omega | (simp; done) | (simp; omega))) | (with_reducible refine' Blk.set2_1 ?_ ?hb; case hb => (first | omega | (simp; done) | (simp; omega))) | (with_reducible refine' Blk.set3_0 ?_ ?hb; case hb => (first | omega | (simp; done) | (simp; omega))) | (with_reducible refine' Blk.set3_1 ?_ ?hb; case hb => (first | omega | (simp; done) | (simp; omega))) | (with_reducible refine' Blk.set3_2 ?_ ?hb; case hb => (first | omega | (simp; done) | (simp; omega))) | (with_reducible refine' Blk.set4_0 ?_ ?hb; case hb => (first | omega | (simp; done) | (simp; omega))) | (with_reducible refine' Blk.set4_1 ?_ ?hb; case hb => (first | omega | (simp; done) | (simp; omega))) | (with_reducible refine' Blk.set4_2 ?_ ?hb; case hb => (first | omega | (simp; done) | (simp; omega))) | (with_reducible refine' Blk.set4_3 ?_ ?hb; case hb => (first | omega | (simp; done) | (simp; omega))) | (with_reducible refine' Blk.set7_0 ?_ ?hb; case hb => (first | omega | (simp; done) | (simp; omega))) | (with_reducible refine' Blk.set7_1 ?_ ?hb; case hb => (first | omega | (simp; done) | (simp; omega))) | (with_reducible refine' Blk.set7_2 ?_ ?hb; case hb => (first | omega | (simp; done) | (simp; omega))) | (with_reducible refine' Blk.set7_3 ?_ ?hb; case hb => (first | omega | (simp; done) | (simp; omega))) | (with_reducible refine' Blk.set7_4 ?_ ?hb; case hb => (first | omega | (simp; done) | (simp; omega))) | (with_reducible refine' Blk.set7_5 ?_ ?hb; case hb => (first | omega | (simp; done) | (simp; omega))) | (with_reducible refine' Blk.set7_6 ?_ ?hb; case hb => (first | omega | (simp; done) | (simp; omega))) | (with_reducible refine Blk.far ?_ ?hb _; case hb => (first | omega | (simp; done) | (simp; omega))) | fail)))
                      case c2 => simp [Value.oneCell']
                      case c3 => have := SB.out.len; unfold maxLen; omega
                      case c4 => omega
                      case c5 => have := SB.out.res.lt; (first | omega | (simp; done) | (simp; omega))
                      case c6 => (first | omega | (simp; done) | (simp; omega))
                      intro g4 c4 w4 hown4 hgrow hat4 hl4
                      have hat5 : gr = g4 ∨ q < g4 ∧ w.heap.size < g4 := by
                        rcases hat4 with h | h
                        · exact .inl (by simpa [Value.ownBlock] using h)
                        · have := SB.out.var.lt; have := SB.out.qgt; omega
                      have SN := Lib.hid (SB.out.put (by (repeat' (first | (with_reducible assumption) | with_reducible exact Below.refl _ _ | with_reducible refine below_drew1 ?_ | with_reducible refine below_drewN ?_ _ | with_reducible refine Below.alloc ?_ ?_ _ | with_reducible refine Below.setCell ?_ ?_ _ | omega | (simp; done) | (simp; omega)))) hgw hgrow hown4 hat5 hl4)
                      have hv4 : Blk w4 q 28 #[.int .i64 cum, .slice (some ⟨gr, 0, none⟩) l c] := Blk.own (by (repeat' (first | (with_reducible exact SB.out.var) | (with_reducible refine Blk.drewN ?_ _) | (with_reducible refine Blk.drew ?_) | (with_reducible refine Blk.new1 ?hb; case hb => (first | omega | (simp; done) | (simp; omega))) | (with_reducible refine Blk.alloc ?_ _) | (with_reducible refine' Blk.set2_0 ?_ ?hb; case hb => (first | omega | (simp; done) | (simp; omega))) | (with_reducible refine' Blk.set2_1 ?_ ?hb; case hb => (first | omega | (simp; done) | (simp; omega))) | (with_reducible refine' Blk.set3_0 ?_ ?hb; case hb => (first | omega | (simp; done) | (simp; omega))) | (with_reducible refine' Blk.set3_1 ?_ ?hb; case hb => (first | omega | (simp; done) | (simp; omega))) | (with_reducible refine' Blk.set3_2 ?_ ?hb; case hb => (first | omega | (simp; done) | (simp; omega))) | (with_reducible refine' Blk.set4_0 ?_ ?hb; case hb => (first | omega | (simp; done) | (simp; omega))) | (with_reducible refine' Blk.set4_1 ?_ ?hb; case hb => (first | omega | (simp; done) | (simp; omega))) | (with_reducible refine' Blk.set4_2 ?_ ?hb; case hb => (first | omega | (simp; done) | (simp; omega))) | (with_reducible refine' Blk.set4_3 ?_ ?hb; case hb => (first | omega | (simp; done) | (simp; omega))) | (with_reducible refine' Blk.set7_0 ?_ ?hb; case hb => (first | omega | (simp; done) | (simp; omega))) | (with_reducible refine' Blk.set7_1 ?_ ?hb; case hb => (first | omega | (simp; done) | (simp; omega))) | (with_reducible refine' Blk.set7_2 ?_ ?hb; case hb => (first | omega | (simp; done) | (simp; omega))) | (with_reducible refine' Blk.set7_3 ?_ ?hb; case hb => (first | omega | (simp; done) | (simp; omega))) | (with_reducible refine' Blk.set7_4 ?_ ?hb; case hb => (first | omega | (simp; done) | (simp; omega))) | (with_reducible refine' Blk.set7_5 ?_ ?hb; case hb => (first | omega | (simp; done) | (simp; omega))) | (with_reducible refine' Blk.set7_6 ?_ ?hb; case hb => (first | omega | (simp; done) | (simp; omega))) | (with_reducible refine Blk.far ?_ ?hb _; case hb => (first | omega | (simp; done) | (simp; omega))) | fail))) hgrow (by have := SB.out.ne; simp [Value.ownBlock]; omega)
                      have a1 : w4.cell? ⟨q, 1, none⟩ = some (.slice (some ⟨gr, 0, none⟩) l c) := hv4.cell 1
                      have af1 := hv4.frozen 1
                      clear hv4 hown4 hgrow hat4 hat5
                      refine hK.out _ _ ?_ (fun hHeld => ?_)
                      · trivial
                      clear hK K
                      try simp only [Act.put, List.getElem_toArray, List.getElem_cons_zero, List.getElem_cons_succ, List.setIfInBounds_toArray, List.set_cons_zero, List.set_cons_succ]
                      refine' wpAnyH_take (i := 9) (v := _) rfl (by kernel_rfl) (by kernel_rfl) (by kernel_rfl) (fun _ _ _ h => h) (Or.inl ⟨by rfl, ?hyr7⟩) (by assumption) ?restr7
                      case hyr7 => (intro w hSw; (try dsimp only at hSw); go_simp; try with_reducible rfl)
                      try simp only [Act.put, List.getElem_toArray, List.getElem_cons_zero, List.getElem_cons_succ, List.setIfInBounds_toArray, List.set_cons_zero, List.set_cons_succ]
                      refine wpAnyH_ready (rs := [10]) (by kernel_rfl) (by simp) ?_
                      refine AllReadyH.cons (o := _) rfl (fun K hK => ?_) ?_
                      · go_simp
                        refine hK.out _ _ ?_ (fun hHeld => ?_)
                        · trivial
                        clear hK K
                        try simp only [Act.put, List.getElem_toArray, List.getElem_cons_zero, List.getElem_cons_succ, List.setIfInBounds_toArray, List.set_cons_zero, List.set_cons_succ]
                        refine wpAnyH_done (by kernel_rfl) ?_ _
                        refine NoPanic.normal ?_
                        clear GF v0 v1 vf0 vf1 x0 x1 xf0 xf1 hql hwl hqg hgg hne hqr a1 af1 e1 e2 sa1 sb1 hHeld
                        obtain ⟨⟨v0, v1⟩, vf0, vf1⟩ := SN.out.var.get2n
                        obtain ⟨⟨x0, x1⟩, xf0, xf1⟩ := SN.out.res.get2n
                        have hql := SN.out.var.lt
                        have hwl := SN.out.res.lt
                        have hqg := SN.out.qgt
                        have hgg := SN.out.gt
                        have hne := SN.out.ne
                        have hqr : q ≠ w.heap.size := by omega
                        have GF := Lib.hid SN.out.own
                        have LEN := Lib.hid SN.out.len
                        generalize hW : w4.setCell _ _ = W at *
                        go_wp2
                        refine bodyPost_ret (v := .agg #[.int .i64 cum, .slice (some ⟨g4, 0, none⟩) (l + 1) c4]) (by simp [results, Try.results35, go_sem, x0, x1, v0, v1, hql, hqr, hwl]) rfl ⟨_, _, xs ++ [(p, r)], rfl, by omega, by omega, by have := LEN.out; omega, ?_, ?_, ?_⟩
                        · (repeat' (first | (with_reducible exact SN.out.row) | (with_reducible refine OG.far ?_ ?_ _) | omega | (simp; done) | (simp; omega)))
                        · (repeat' (first | with_reducible exact SN.out.rd.mono (by omega) | with_reducible refine Rd.mono SN.out.rd.mono (by omega) ?_ | with_reducible refine Rd.setCell ?_ ?_ _ | with_reducible refine Rd.alloc ?_ _ | with_reducible refine Rd.drewN ?_ _ | with_reducible refine Rd.drew ?_ | omega | (simp; done) | (simp; omega)))
                        · (repeat' (first | with_reducible exact GF.out | with_reducible exact only_refl _ _ | with_reducible refine only_setCell ?_ (.inr ?_) _ | with_reducible refine only_alloc ?_ _ | with_reducible refine only_drewN ?_ _ | with_reducible refine only_drew ?_ | omega | (simp; done) | (simp; omega)))
                      exact AllReadyH.nil
                    exact AllReadyH.nil
                  exact AllReadyH.nil
                exact AllReadyH.nil
              refine AllReadyH.cons (o := _) rfl (fun K hK => ?_) ?_
              · go_simp
                with_reducible refine (c_pick g (k + 5 + 4 * j + 1 + 1) 18 _ (by (repeat' (first | with_reducible exact SA.out.rd | with_reducible refine Rd.mono SA.out.rd ?_ | with_reducible refine Rd.setCell ?_ ?_ _ | with_reducible refine Rd.alloc ?_ _ | with_reducible refine Rd.drewN ?_ _ | with_reducible refine Rd.drew ?_ | omega | (simp; done) | (simp; omega)))) (by omega) (by omega)).mono ?_
                rintro e wb ⟨r, rfl, hr0, hr1, hRr, hgr⟩
                have SB := Lib.hid (SSt.grown (by first | exact SA.out | exact SA.out.drew | exact SA.out.drewN _) hgr hRr hgw)
                have sb1 : wb.cell? ⟨q, 1, none⟩ = some (.slice (some ⟨gr, 0, none⟩) l c) := SB.out.var.cell 1
                have hqSB := SB.out.var.lt
                have e1 := fun (o : Obj) => show (wb.alloc o).cell? ⟨q, 1, none⟩ = some (.slice (some ⟨gr, 0, none⟩) l c) from (World.cell?_alloc_lt wb o _ hqSB).trans sb1
                have e2 := fun (o : Obj) => show (wb.drew.alloc o).cell? ⟨q, 1, none⟩ = some (.slice (some ⟨gr, 0, none⟩) l c) from (World.cell?_alloc_lt wb o _ hqSB).trans sb1
                go_wp2_with fail
                refine hK.out _ _ ?_ (fun hHeld => ?_)
                · trivial
                clear hK K
                try simp only [Act.put, List.getElem_toArray, List.getElem_cons_zero, List.getElem_cons_succ, List.setIfInBounds_toArray, List.set_cons_zero, List.set_cons_succ]
                refine' wpAnyH_take (i := 6) (v := _) rfl (by kernel_rfl) (by kernel_rfl) (by kernel_rfl) (fun _ _ _ h => h) (Or.inl ⟨by rfl, ?hyr8⟩) (by assumption) ?restr8
                case hyr8 => (intro w hSw; (try dsimp only at hSw); go_simp; try with_reducible rfl)
                try simp only [Act.put, List.getElem_toArray, List.getElem_cons_zero, List.getElem_cons_succ, List.setIfInBounds_toArray, List.set_cons_zero, List.set_cons_succ]
                refine wpAnyH_ready (rs := [1, 7]) (by kernel_rfl) (by simp) ?_
                refine AllReadyH.cons (o := _) rfl (fun K hK => ?_) ?_
                · go_simp
                  refine hK.out _ _ ?_ (fun hHeld => ?_)
                  · trivial
                  clear hK K
                  try simp only [Act.put, List.getElem_toArray, List.getElem_cons_zero, List.getElem_cons_succ, List.setIfInBounds_toArray, List.set_cons_zero, List.set_cons_succ]
                  refine wpAnyH_ready (rs := [7]) (by kernel_rfl) (by simp) ?_
                  refine AllReadyH.cons (o := _) rfl (fun K hK => ?_) ?_
                  · go_simp
                    refine hK.out _ _ ?_ (fun hHeld => ?_)
                    · trivial
                    clear hK K
                    try simp only [Act.put, List.getElem_toArray, List.getElem_cons_zero, List.getElem_cons_succ, List.setIfInBounds_toArray, List.set_cons_zero, List.set_cons_succ]
                    refine wpAnyH_ready (rs := [8]) (by kernel_rfl) (by simp) ?_
                    refine AllReadyH.cons (o := _) rfl (fun K hK => ?_) ?_
                    · refine step_append_lies _ (by rfl) _ _ _ (by rfl) (w.heap.size + 1) 38 i0 _ 2 16 Try.underlying26 hi hz0 hz1 hz2 rfl (by decide) (.slice (some ⟨gr, 0, none⟩) l c) l (flatG xs) (by rfl) ?c0 ⟨wb.heap.size, 0, none⟩ 1 1 [.int .i64 p, .int .i64 r] (by rfl) (by rfl) ?c1 ?c2 (by omega) ?c3 ?c4 ?c5 (wb.heap.size + 1) ?c6 ?_
                      case c0 => exact OG.row (by (repeat' (first | (with_reducible exact SB.out.row) | with_reducible refine OG.alloc ?_ _ | with_reducible refine OG.drew ?_ | with_reducible refine OG.drewN ?_ _ | with_reducible refine OG.old ?_ ?_ _ | omega | (simp; done) | (simp; omega)))) SB.out.len
                      case c1 => exact World.news_of_block (cs := #[.int .i64 p, .int .i64 r]) (t := 38) (fr := (0, 0)) (by show Blk _ _ _ _; (repeat' (first | (with_reducible refine Blk.drewN ?_ _) | (with_reducible refine Blk.drew ?_) | (with_reducible refine Blk.new1 ?hb; case hb => (first | omega | (simp; done) | (simp; omega))) | (with_reducible refine Blk.alloc ?_ _) | (with_reducible refine' Blk.set2_0 ?_ ?hb; case hb => (first | omega | (simp; done) | (simp; omega))) | (with_reducible refine' Blk.set2_1 ?_ ?hb; case hb => (first | omega | (simp; done) | (simp; omega))) | (with_reducible refine' Blk.set3_0 ?_ ?hb; case hb => (first | omega | (simp; done) | (simp; omega))) | (with_reducible refine' Blk.set3_1 ?_ ?hb; case hb => (first | omega | (simp; done) | (simp; omega))) | (with_reducible refine' Blk.set3_2 ?_ ?hb; case hb => (first | omega | (simp; done) | (simp; omega))) | (with_reducible refine' Blk.set4_0 ?_ ?hb; case hb => (first | omega | (simp; done) | (simp; omega))) | (with_reducible refine' Blk.set4_1 ?_ ?hb; case hb => (first | omega | (simp; done) | (simp; omega))) | (with_reducible refine' Blk.set4_2 ?_ ?hb; case hb => (first | omega | (simp; done) | (simp; omega))) | (with_reducible refine' Blk.set4_3 ?_ ?hb; case hb => (first | omega | (simp; done) | (simp; omega))) | (with_reducible refine' Blk.set7_0 ?_ ?hb; case hb => (first | omega | (simp; done) | (simp; omega))) | (with_reducible refine' Blk.set7_1 ?_ ?hb; case hb => (first | omega | (simp; done) | (simp; omega))) | (with_reducible refine' Blk.set7_2 ?_ ?hb; case hb => (first | omega | (simp; done) | (simp; omega))) | (with_reducible refine' Blk.set7_3 ?_ ?hb; case hb => (first | omega | (simp; done) | (simp; omega))) | (with_reducible refine' Blk.set7_4 ?_ ?hb; case hb => (first | omega | (simp; done) | (simp; omega))) | (with_reducible refine' Blk.set7_5 ?_ ?hb; case hb => (first | omega | (simp; done) | (simp; omega))) | (with_reducible refine' Blk.set7_6 ?_ ?hb; case hb => (first | omega | (simp; done) | (simp; omega))) | (with_reducible refine Blk.far ?_ ?hb _; case hb => (first | omega | (simp; done) | (simp; omega))) | fail)))
                      case c2 => simp [Value.oneCell']
                      case c3 => have := SB.out.len; unfold maxLen; omega
                      case c4 => omega
                      case c5 => have := SB.out.res.lt; (first | omega | (simp; done) | (simp; omega))
                      case c6 => (first | omega | (simp; done) | (simp; omega))
                      intro g4 c4 w4 hown4 hgrow hat4 hl4
                      have hat5 : gr = g4 ∨ q < g4 ∧ w.heap.size < g4 := by
                        rcases hat4 with h | h
                        · exact .inl (by simpa [Value.ownBlock] using h)
                        · have := SB.out.var.lt; have := SB.out.qgt; omega
                      have SN := Lib.hid (SB.out.put (by (repeat' (first | (with_reducible assumption) | with_reducible exact Below.refl _ _ | with_reducible refine below_drew1 ?_ | with_reducible refine below_drewN ?_ _ | with_reducible refine Below.alloc ?_ ?_ _ | with_reducible refine Below.setCell ?_ ?_ _ | omega | (simp; done) | (simp; omega)))) hgw hgrow hown4 hat5 hl4)
                      have hv4 : Blk w4 q 28 #[.int .i64 cum, .slice (some ⟨gr, 0, none⟩) l c] := Blk.own (by (repeat' (first | (with_reducible exact SB.out.var) | (with_reducible refine Blk.drewN ?_ _) | (with_reducible refine Blk.drew ?_) | (with_reducible refine Blk.new1 ?hb; case hb => (first | omega | (simp; done) | (simp; omega))) | (with_reducible refine Blk.alloc ?_ _) | (with_reducible refine' Blk.set2_0 ?_ ?hb; case hb => (first | omega | (simp; done) | (simp; omega))) | (with_reducible refine' Blk.set2_1 ?_ ?hb; case hb => (first | omega | (simp; done) | (simp; omega))) | (with_reducible refine' Blk.set3_0 ?_ ?hb; case hb => (first | omega | (simp; done) | (simp; omega))) | (with_reducible refine' Blk.set3_1 ?_ ?hb; case hb => (first | omega | (simp; done) | (simp; omega))) | (with_reducible refine' Blk.set3_2 ?_ ?hb; case hb => (first | omega | (simp; done) | (simp; omega))) | (with_reducible refine' Blk.set4_0 ?_ ?hb; case hb => (first | omega | (simp; done) | (simp; omega))) | (with_reducible refine' Blk.set4_1 ?_ ?hb; case hb => (first | omega | (simp; done) | (simp; omega))) | (with_reducible refine' Blk.set4_2 ?_ ?hb; case hb => (first | omega | (simp; done) | (simp; omega))) | (with_reducible refine' Blk.set4_3 ?_ ?hb; case hb => (first | omega | (simp; done) | (simp; omega))) | (with_reducible refine' Blk.set7_0 ?_ ?hb; case hb => (first | omega | (simp; done) | (simp; omega))) | (with_reducible refine' Blk.set7_1 ?_ ?hb; case hb => (first | omega | (simp; done) | (simp; omega))) | (with_reducible refine' Blk.set7_2 ?_ ?hb; case hb => (first | omega | (simp; done) | (simp; omega))) | (with_reducible refine' Blk.set7_3 ?_ ?hb; case hb => (first | omega | (simp; done) | (simp; omega))) | (with_reducible refine' Blk.set7_4 ?_ ?hb; case hb => (first | omega | (simp; done) | (simp; omega))) | (with_reducible refine' Blk.set7_5 ?_ ?hb; case hb => (first | omega | (simp; done) | (simp; omega))) | (with_reducible refine' Blk.set7_6 ?_ ?hb; case hb => (first | omega | (simp; done) | (simp; omega))) | (with_reducible refine Blk.far ?_ ?hb _; case hb => (first | omega | (simp; done) | (simp; omega))) | fail))) hgrow (by have := SB.out.ne; simp [Value.ownBlock]; omega)
                      have a1 : w4.cell? ⟨q, 1, none⟩ = some (.slice (some ⟨gr, 0, none⟩) l c) := hv4.cell 1
                      have af1 := hv4.frozen 1
                      clear hv4 hown4 hgrow hat4 hat5
                      refine hK.out _ _ ?_ (fun hHeld => ?_)
                      · trivial
                      clear hK K
                      try simp only [Act.put, List.getElem_toArray, List.getElem_cons_zero, List.getElem_cons_succ, List.setIfInBounds_toArray, List.set_cons_zero, List.set_cons_succ]
                      refine' wpAnyH_take (i := 9) (v := _) rfl (by kernel_rfl) (by kernel_rfl) (by kernel_rfl) (fun _ _ _ h => h) (Or.inl ⟨by rfl, ?hyr9⟩) (by assumption) ?restr9
                      case hyr9 => (intro w hSw; (try dsimp only at hSw); go_simp; try with_reducible rfl)
                      try simp only [Act.put, List.getElem_toArray, List.getElem_cons_zero, List.getElem_cons_succ, List.setIfInBounds_toArray, List.set_cons_zero, List.set_cons_succ]
                      refine wpAnyH_ready (rs := [10]) (by kernel_rfl) (by simp) ?_
                      refine AllReadyH.cons (o := _) rfl (fun K hK => ?_) ?_
                      · go_simp
                        refine hK.out _ _ ?_ (fun hHeld => ?_)
                        · trivial
                        clear hK K
                        try simp only [Act.put, List.getElem_toArray, List.getElem_cons_zero, List.getElem_cons_succ, List.setIfInBounds_toArray, List.set_cons_zero, List.set_cons_succ]
                        refine wpAnyH_done (by kernel_rfl) ?_ _
                        refine NoPanic.normal ?_
                        clear GF v0 v1 vf0 vf1 x0 x1 xf0 xf1 hql hwl hqg hgg hne hqr a1 af1 e1 e2 sa1 sb1 hHeld
                        obtain ⟨⟨v0, v1⟩, vf0, vf1⟩ := SN.out.var.get2n
                        obtain ⟨⟨x0, x1⟩, xf0, xf1⟩ := SN.out.res.get2n
                        have hql := SN.out.var.lt
                        have hwl := SN.out.res.lt
                        have hqg := SN.out.qgt
                        have hgg := SN.out.gt
                        have hne := SN.out.ne
                        have hqr : q ≠ w.heap.size := by omega
                        have GF := Lib.hid SN.out.own
                        have LEN := Lib.hid SN.out.len
                        generalize hW : w4.setCell _ _ = W at *
                        go_wp2
                        refine bodyPost_ret (v := .agg #[.int .i64 cum, .slice (some ⟨g4, 0, none⟩) (l + 1) c4]) (by simp [results, Try.results35, go_sem, x0, x1, v0, v1, hql, hqr, hwl]) rfl ⟨_, _, xs ++ [(p, r)], rfl, by omega, by omega, by have := LEN.out; omega, ?_, ?_, ?_⟩
                        · (repeat' (first | (with_reducible exact SN.out.row) | (with_reducible refine OG.far ?_ ?_ _) | omega | (simp; done) | (simp; omega)))
                        · (repeat' (first | with_reducible exact SN.out.rd.mono (by omega) | with_reducible refine Rd.mono SN.out.rd.mono (by omega) ?_ | with_reducible refine Rd.setCell ?_ ?_ _ | with_reducible refine Rd.alloc ?_ _ | with_reducible refine Rd.drewN ?_ _ | with_reducible refine Rd.drew ?_ | omega | (simp; done) | (simp; omega)))
                        · (repeat' (first | with_reducible exact GF.out | with_reducible exact only_refl _ _ | with_reducible refine only_setCell ?_ (.inr ?_) _ | with_reducible refine only_alloc ?_ _ | with_reducible refine only_drewN ?_ _ | with_reducible refine only_drew ?_ | omega | (simp; done) | (simp; omega)))
                      exact AllReadyH.nil
                    exact AllReadyH.nil
                  exact AllReadyH.nil
                refine AllReadyH.cons (o := _) rfl (fun K hK => ?_) ?_
                · go_simp
                  refine hK.out _ _ ?_ (fun hHeld => ?_)
                  · trivial
                  clear hK K
                  try simp only [Act.put, List.getElem_toArray, List.getElem_cons_zero, List.getElem_cons_succ, List.setIfInBounds_toArray, List.set_cons_zero, List.set_cons_succ]
                  refine wpAnyH_ready (rs := [1]) (by kernel_rfl) (by simp) ?_
                  refine AllReadyH.cons (o := _) rfl (fun K hK => ?_) ?_
                  · go_simp
                    refine hK.out _ _ ?_ (fun hHeld => ?_)
                    · trivial
                    clear hK K
                    try simp only [Act.put, List.getElem_toArray, List.getElem_cons_zero, List.getElem_cons_succ, List.setIfInBounds_toArray, List.set_cons_zero, List.set_cons_succ]
                    refine wpAnyH_ready (rs := [8]) (by kernel_rfl) (by simp) ?_
                    refine AllReadyH.cons (o := _) rfl (fun K hK => ?_) ?_
                    · refine step_append_lies _ (by rfl) _ _ _ (by rfl) (w.heap.size + 1) 38 i0 _ 2 16 Try.underlying26 hi hz0 hz1 hz2 rfl (by decide) (.slice (some ⟨gr, 0, none⟩) l c) l (flatG xs) (by rfl) ?c0 ⟨wb.heap.size, 0, none⟩ 1 1 [.int .i64 p, .int .i64 r] (by rfl) (by rfl) ?c1 ?c2 (by omega) ?c3 ?c4 ?c5 (wb.heap.size + 1) ?c6 ?_
                      case c0 => exact OG.row (by (repeat' (first | (with_reducible exact SB.out.row) | with_reducible refine OG.alloc ?_ _ | with_reducible refine OG.drew ?_ | with_reducible refine OG.drewN ?_ _ | with_reducible refine OG.old ?_ ?_ _ | omega | (simp; done) | (simp; omega)))) SB.out.len
                      case c1 => exact World.news_of_block (cs := #[.int .i64 p, .int .i64 r]) (t := 38) (fr := (0, 0)) (by show Blk _ _ _ _; (repeat' (first | (with_reducible refine Blk.drewN ?_ _) | (with_reducible refine Blk.drew ?_) | (with_reducible refine Blk.new1 ?hb; case hb => (first | omega | (simp; done) | (simp; omega))) | (with_reducible refine Blk.alloc ?_ _) | (with_reducible refine' Blk.set2_0 ?_ ?hb; case hb => (first | omega | (simp; done) | (simp; omega))) | (with_reducible refine' Blk.set2_1 ?_ ?hb; case hb => (first | omega | (simp; done) | (simp; omega))) | (with_reducible refine' Blk.set3_0 ?_ ?hb; case hb => (first | omega | (simp; done) | (simp; omega))) | (with_reducible refine' Blk.set3_1 ?_ ?hb; case hb => (first | omega | (simp; done) | (simp; omega))) | (with_reducible refine' Blk.set3_2 ?_ ?hb; case hb => (first | omega | (simp; done) | (simp; omega))) | (with_reducible refine' Blk.set4_0 ?_ ?hb; case hb => (first | omega | (simp; done) | (simp; omega))) | (with_reducible refine' Blk.set4_1 ?_ ?hb; case hb => (first | omega | (simp; done) | (simp; omega))) | (with_reducible refine' Blk.set4_2 ?_ ?hb; case hb => (first | omega | (simp; done) | (simp; omega))) | (with_reducible refine' Blk.set4_3 ?_ ?hb; case hb => (first | omega | (simp; done) | (simp; omega))) | (with_reducible refine' Blk.set7_0 ?_ ?hb; case hb => (first | omega | (simp; done) | (simp; omega))) | (with_reducible refine' Blk.set7_1 ?_ ?hb; case hb => (first | omega | (simp; done) | (simp; omega))) | (with_reducible refine' Blk.set7_2 ?_ ?hb; case hb => (first | omega | (simp; done) | (simp; omega))) | (with_reducible refine' Blk.set7_3 ?_ ?hb; case hb => (first | omega | (simp; done) | (simp; omega))) | (with_reducible refine' Blk.set7_4 ?_ ?hb; case hb => (first | omega | (simp; done) | (simp; omega))) | (with_reducible refine' Blk.set7_5 ?_ ?hb; case hb => (first | omega | (simp; done) | (simp; omega))) | (with_reducible refine' Blk.set7_6 ?_ ?hb; case hb => (first | omega | (simp; done) | (simp; omega))) | (with_reducible refine Blk.far ?_ ?hb _; case hb => (first | omega | (simp; done) | (simp; omega))) | fail)))
                      case c2 => simp [Value.oneCell']
                      case c3 => have := SB.out.len; unfold maxLen; omega
                      case c4 => omega
                      case c5 => have := SB.out.res.lt; (first | omega | (simp; done) | (simp; omega))
                      case c6 => (first | omega | (simp; done) | (simp; omega))
                      intro g4 c4 w4 hown4 hgrow hat4 hl4
                      have hat5 : gr = g4 ∨ q < g4 ∧ w.heap.size < g4 := by
                        rcases hat4 with h | h
                        · exact .inl (by simpa [Value.ownBlock] using h)
                        · have := SB.out.var.lt; have := SB.out.qgt; omega
                      have SN := Lib.hid (SB.out.put (by (repeat' (first | (with_reducible assumption) | with_reducible exact Below.refl _ _ | with_reducible refine below_drew1 ?_ | with_reducible refine below_drewN ?_ _ | with_reducible refine Below.alloc ?_ ?_ _ | with_reducible refine Below.setCell ?_ ?_ _ | omega | (simp; done) | (simp; omega)))) hgw hgrow hown4 hat5 hl4)
                      have hv4 : Blk w4 q 28 #[.int .i64 cum, .slice (some ⟨gr, 0, none⟩) l c] := Blk.own (by (repeat' (first | (with_reducible exact SB.out.var) | (with_reducible refine Blk.drewN ?_ _) | (with_reducible refine Blk.drew ?_) | (with_reducible refine Blk.new1 ?hb; case hb => (first | omega | (simp; done) | (simp; omega))) | (with_reducible refine Blk.alloc ?_ _) | (with_reducible refine' Blk.set2_0 ?_ ?hb; case hb => (first | omega | (simp; done) | (simp; omega))) | (with_reducible refine' Blk.set2_1 ?_ ?hb; case hb => (first | omega | (simp; done) | (simp; omega))) | (with_reducible refine' Blk.set3_0 ?_ ?hb; case hb => (first | omega | (simp; done) | (simp; omega))) | (with_reducible refine' Blk.set3_1 ?_ ?hb; case hb => (first | omega | (simp; done) | (simp; omega))) | (with_reducible refine' Blk.set3_2 ?_ ?hb; case hb => (first | omega | (simp; done) | (simp; omega))) | (with_reducible refine' Blk.set4_0 ?_ ?hb; case hb => (first | omega | (simp; done) | (simp; omega))) | (with_reducible refine' Blk.set4_1 ?_ ?hb; case hb => (first | omega | (simp; done) | (simp; omega))) | (with_reducible refine' Blk.set4_2 ?_ ?hb; case hb => (first | omega | (simp; done) | (simp; omega))) | (with_reducible refine' Blk.set4_3 ?_ ?hb; case hb => (first | omega | (simp; done) | (simp; omega))) | (with_reducible refine' Blk.set7_0 ?_ ?hb; case hb => (first | omega | (simp; done) | (simp; omega))) | (with_reducible refine' Blk.set7_1 ?_ ?hb; case hb => (first | omega | (simp; done) | (simp; omega))) | (with_reducible refine' Blk.set7_2 ?_ ?hb; case hb => (first | omega | (simp; done) | (simp; omega))) | (with_reducible refine' Blk.set7_3 ?_ ?hb; case hb => (first | omega | (simp; done) | (simp; omega))) | (with_reducible refine' Blk.set7_4 ?_ ?hb; case hb => (first | omega | (simp; done) | (simp; omega))) | (with_reducible refine' Blk.set7_5 ?_ ?hb; case hb => (first | omega | (simp; done) | (simp; omega))) | (with_reducible refine' Blk.set7_6 ?_ ?hb; case hb => (first | omega | (simp; done) | (simp; omega))) | (with_reducible refine Blk.far ?_ ?hb _; case hb => (first | omega | (simp; done) | (simp; omega))) | fail))) hgrow (by have := SB.out.ne; simp [Value.ownBlock]; omega)
                      have a1 : w4.cell? ⟨q, 1, none⟩ = some (.slice (some ⟨gr, 0, none⟩) l c) := hv4.cell 1
                      have af1 := hv4.frozen 1
                      clear hv4 hown4 hgrow hat4 hat5
                      refine hK.out _ _ ?_ (fun hHeld => ?_)
                      · trivial
                      clear hK K
                      try simp only [Act.put, List.getElem_toArray, List.getElem_cons_zero, List.getElem_cons_succ, List.setIfInBounds_toArray, List.set_cons_zero, List.set_cons_succ]
                      refine' wpAnyH_take (i := 9) (v := _) rfl (by kernel_rfl) (by kernel_rfl) (by kernel_rfl) (fun _ _ _ h => h) (Or.inl ⟨by rfl, ?hyr10⟩) (by assumption) ?restr10
                      case hyr10 => (intro w hSw; (try dsimp only at hSw); go_simp; try with_reducible rfl)
                      try simp only [Act.put, List.getElem_toArray, List.getElem_cons_zero, List.getElem_cons_succ, List.setIfInBounds_toArray, List.set_cons_zero, List.set_cons_succ]
                      refine wpAnyH_ready (rs := [10]) (by kernel_rfl) (by simp) ?_
                      refine AllReadyH.cons (o := _) rfl (fun K hK => ?_) ?_
                      · go_simp
                        refine hK.out _ _ ?_ (fun hHeld => ?_)
                        · trivial
                        clear hK K
                        try simp only [Act.put, List.getElem_toArray, List.getElem_cons_zero, List.getElem_cons_succ, List.setIfInBounds_toArray, List.set_cons_zero, List.set_cons_succ]
                        refine wpAnyH_done (by kernel_rfl) ?_ _
                        refine NoPanic.normal ?_
                        clear GF v0 v1 vf0 vf1 x0 x1 xf0 xf1 hql hwl hqg hgg hne hqr a1 af1 e1 e2 sa1 sb1 hHeld
                        obtain ⟨⟨v0, v1⟩, vf0, vf1⟩ := SN.out.var.get2n
                        obtain ⟨⟨x0, x1⟩, xf0, xf1⟩ := SN.out.res.get2n
                        have hql := SN.out.var.lt
                        have hwl := SN.out.res.lt
                        have hqg := SN.out.qgt
                        have hgg := SN.out.gt
                        have hne := SN.out.ne
                        have hqr : q ≠ w.heap.size := by omega
                        have GF := Lib.hid SN.out.own
                        have LEN := Lib.hid SN.out.len
                        generalize hW : w4.setCell _ _ = W at *
                        go_wp2
                        refine bodyPost_ret (v := .agg #[.int .i64 cum, .slice (some ⟨g4, 0, none⟩) (l + 1) c4]) (by simp [results, Try.results35, go_sem, x0, x1, v0, v1, hql, hqr, hwl]) rfl ⟨_, _, xs ++ [(p, r)], rfl, by omega, by omega, by have := LEN.out; omega, ?_, ?_, ?_⟩
                        · (repeat' (first | (with_reducible exact SN.out.row) | (with_reducible refine OG.far ?_ ?_ _) | omega | (simp; done) | (simp; omega)))
                        · (repeat' (first | with_reducible exact SN.out.rd.mono (by omega) | with_reducible refine Rd.mono SN.out.rd.mono (by omega) ?_ | with_reducible refine Rd.setCell ?_ ?_ _ | with_reducible refine Rd.alloc ?_ _ | with_reducible refine Rd.drewN ?_ _ | with_reducible refine Rd.drew ?_ | omega | (simp; done) | (simp; omega)))
                        · (repeat' (first | with_reducible exact GF.out | with_reducible exact only_refl _ _ | with_reducible refine only_setCell ?_ (.inr ?_) _ | with_reducible refine only_alloc ?_ _ | with_reducible refine only_drewN ?_ _ | with_reducible refine only_drew ?_ | omega | (simp; done) | (simp; omega)))
                      exact AllReadyH.nil
                    exact AllReadyH.nil
                  exact AllReadyH.nil
                exact AllReadyH.nil
              exact AllReadyH.nil
            exact AllReadyH.nil
          · have hvb2 : (v == 1) = false := by simp; omega
            obtain ⟨⟨v0, v1⟩, vf0, vf1⟩ := S6.out.var.get2n
            obtain ⟨⟨x0, x1⟩, xf0, xf1⟩ := S6.out.res.get2n
            have hql := S6.out.var.lt
            have hwl := S6.out.res.lt
            have hqg := S6.out.qgt
            have hgg := S6.out.gt
            have hne := S6.out.ne
            have hqr : q ≠ w.heap.size := by omega
            have GF := Lib.hid S6.out.own
            go_wp2
            refine bodyPost_ret (v := .agg #[.int .i64 cum, .slice (some ⟨gr, 0, none⟩) l c]) (by simp [results, Try.results35, go_sem, x0, x1, v0, v1, hql, hqr, hwl]) rfl ⟨_, _, xs, rfl, by omega, by omega, by have := S6.out.len; omega, ?_, ?_, ?_⟩
            · (repeat' (first | (with_reducible exact S6.out.row) | (with_reducible refine OG.far ?_ ?_ _) | omega | (simp; done) | (simp; omega)))
            · (repeat' (first | with_reducible exact S6.out.rd.mono (by omega) | with_reducible refine Rd.mono S6.out.rd.mono (by omega) ?_ | with_reducible refine Rd.setCell ?_ ?_ _ | with_reducible refine Rd.alloc ?_ _ | with_reducible refine Rd.drewN ?_ _ | with_reducible refine Rd.drew ?_ | omega | (simp; done) | (simp; omega)))
            · (repeat' (first | with_reducible exact GF.out | with_reducible exact only_refl _ _ | with_reducible refine only_setCell ?_ (.inr ?_) _ | with_reducible refine only_alloc ?_ _ | with_reducible refine only_drewN ?_ _ | with_reducible refine only_drew ?_ | omega | (simp; done) | (simp; omega)))
end Go.Proofs.Ytokjdnfohbabgaa
