/-
  The receipts that the laws draw; two receipts held against each other.
-/
import Derived.Test.YtokjdnfohbabgaaDrawSack
import Derived.Test.YtokjdnfohbabgaaSackV
import Derived.Test.YtokjdnfohbabgaaDrawAny
import Derived.Test.YtokjdnfohbabgaaSerial
import Derived.BigQuiet
namespace Go.Proofs.Ytokjdnfohbabgaa
set_option linter.unusedVariables false
set_option linter.unusedSimpArgs false
open Go.RowKit

/-- A drawn receipt, and nothing old turned. -/
def DrSack (w : World) (e : Ending) (w' : World) : Prop :=
  ∃ (cum : Int) (A : Option Addr) (n c : Nat) (xs : List (Int × Int)), e = .returned (.agg #[.int .i64 cum, .slice A n c]) ∧ -1 ≤ cum ∧ cum ≤ 65536 ∧ n ≤ 10 ∧ n ≤ c ∧ c ≤ maxLen ∧ Gaps w' w'.heap.size A n xs ∧ Below w.heap.size w w'
theorem SackBlk.lt {w : World} {g : Nat} {t : TypeId} {cs : Array Value} (h : Blk w g t cs) : g < w.heap.size := h.lt
set_option maxRecDepth 100000 in
set_option maxHeartbeats 2000000 in
theorem c_DrawSackPut (a : Option Addr) (n c : Nat) (w : World) (hC : Code w a n c) : Calls Try.prog 18 #[.slice a n c] w (DrSack w) := by
  go_enter Try.func18, Try.ntmps18
  go_wp2_with fail
  refine (c_l6Open a n c _ (hC.below ((Below.refl _ _).alloc (Nat.le_refl _) _))).mono ?_
  rintro e w1 ⟨g, rfl, hg, hR, hb⟩
  have hQ := (Blk.new w 28 #[.int .i64 0, .slice none 0 0]).below hb (by simp)
  have hg2 : w.heap.size < g := by simp at hg; omega
  have B1 := Lib.hid (below_step ((Below.refl w.heap.size w).alloc (Nat.le_refl _) _) (by simp) hb)
  clear hb hg
  go_wp2_with fail
  refine (c_l91Sack g 0 _ hR (by omega)).mono ?_
  rintro e w2 ⟨cum, v, xs, rfl, hx0, hx1, hl, hO, hR2, hg3⟩
  obtain ⟨A, c2, rfl, hn1, hn2, hG⟩ := hO.formN rfl
  obtain ⟨m, hm⟩ : ∃ m, xs.length = m := ⟨_, rfl⟩
  rw [hm] at hO hn1 hG hl ⊢
  have hQ2 := hQ.grown hg3 (by omega)
  obtain ⟨⟨d0, d1⟩, e0, e1⟩ := hQ2.get2n
  have B2 := Lib.hid (below_only B1.out hg3 B1.out.size (by omega))
  have hw1 := B1.out.size
  have HG := Lib.hid hG
  have HO := Lib.hid hO
  have hql := hQ2.lt
  have h1l := hQ.lt
  clear hg3 B1 hQ hR hG hO hQ2
  go_wp2
  refine bodyPost_ret (v := .agg #[.int .i64 cum, .slice A m c2]) (by simp [results, Try.results18, go_sem, d0, d1]) rfl ?_
  have HO2 := (HO.out.old (p := ⟨w.heap.size, 0, none⟩) (by show w.heap.size < _; omega) (.int .i64 cum)).old (p := ⟨w.heap.size, 1, none⟩) (by show w.heap.size < _; omega) (.slice A m c2)
  obtain ⟨A', c', he, h1, h2, h3⟩ := HO2.formN hm
  cases he
  refine ⟨cum, A, m, c2, xs, rfl, hx0, hx1, hl, hn1, hn2, ?_, ?_⟩
  · exact h3
  · (repeat' (first | with_reducible exact B2.out | with_reducible exact Below.refl _ _ | with_reducible refine below_drew1 ?_ | with_reducible refine below_drewN ?_ _ | with_reducible refine Below.alloc ?_ ?_ _ | with_reducible refine Below.setCell ?_ ?_ _ | omega | (simp; done) | (simp; omega)))
theorem spK_range (cum : Int) (xs : List (Int × Int)) : 0 ≤ spK cum xs ∧ spK cum xs ≤ 3 := by unfold spK; cases sackOkV cum xs <;> simp
theorem spS_size (cum : Int) (xs : List (Int × Int)) : (spS cum xs).size ≤ 34 := by
  unfold spS
  cases h : sackOkV cum xs with
  | false => show 0 ≤ 34; omega
  | true => show (sackBody cum xs).size ≤ 34; rw [sackBody_size]; have := (sackOk_yes h).2.2.1; omega
set_option maxRecDepth 100000 in
set_option maxHeartbeats 2000000 in
theorem c_DrawSackGet (a : Option Addr) (n c : Nat) (w : World) (hC : Code w a n c) : Calls Try.prog 13 #[.slice a n c] w (DrCh w) := by
  go_enter Try.func13, Try.ntmps13
  go_wp2_with fail
  refine (c_l6Open a n c _ (hC.below ((Below.refl _ _).alloc (Nat.le_refl _) _))).mono ?_
  rintro e w1 ⟨g, rfl, hg, hR, hb⟩
  have hQ := (Blk.new w 24 #[.int .i64 0, .int .i64 0, .string ⟨#[]⟩]).below hb (by simp)
  have hg2 : w.heap.size < g := by simp at hg; omega
  have B1 := Lib.hid (below_step ((Below.refl w.heap.size w).alloc (Nat.le_refl _) _) (by simp) hb)
  clear hb hg
  go_wp2_with fail
  refine (c_l91Sack g 0 _ hR (by omega)).mono ?_
  rintro e w2 ⟨cum, v, xs, rfl, hx0, hx1, hl, hO, hR2, hg3⟩
  obtain ⟨A, c2, rfl, hn1, hn2, hG⟩ := hO.formN rfl
  have hQ2 := hQ.grown hg3 (by omega)
  have B2 := Lib.hid (below_only B1.out hg3 B1.out.size (by omega))
  have hw1 := B1.out.size
  have hgw2 := hR2.lt
  clear hg3 B1 hQ hR hO
  go_wp2_with fail
  refine (c_sSackPut cum A _ c2 xs _ _ hG (Nat.le_refl _) (by unfold maxLen; omega)).mono ?_
  rintro e w3 ⟨rfl, h3⟩
  have hQ3 := hQ2.below h3 hQ2.lt
  have hR3 := hR2.below h3 hR2.lt
  have B3 := Lib.hid (below_step B2.out B2.out.size h3)
  have hz3 := h3.size
  have k0 := spK_range cum xs
  have k1 := spS_size cum xs
  clear h3 hQ2 hR2 B2 hG
  generalize spK cum xs = kk at *
  generalize spS cum xs = ss at *
  go_wp2_with fail
  refine (c_l91Any g 60 kk 0 ss _ (by (repeat' (first | with_reducible exact hR3.mono (by omega) | with_reducible refine Rd.mono hR3.mono (by omega) ?_ | with_reducible refine Rd.setCell ?_ ?_ _ | with_reducible refine Rd.alloc ?_ _ | with_reducible refine Rd.drewN ?_ _ | with_reducible refine Rd.drew ?_ | omega | (simp; done) | (simp; omega)))) (by omega) (by omega) (by omega) (by omega) (by omega) (by omega)).mono ?_
  rintro e w4 ⟨p, q, t, rfl, hp0, hp1, hq0, hq1, ht, hR4, hg4⟩
  have hQ4 : Blk w4 w.heap.size 24 #[.int .i64 0, .int .i64 0, .string ⟨#[]⟩] := Blk.grown (by (repeat' (first | (with_reducible exact hQ3) | (with_reducible refine Blk.drewN ?_ _) | (with_reducible refine Blk.drew ?_) | (with_reducible refine Blk.new1 ?hb; case hb => (first | omega | (simp; done) | (simp; omega))) | (with_reducible refine Blk.alloc ?_ _) | (with_reducible refine' Blk.set2_0 ?_ ?hb; case hb => (first | omega | (simp; done) | (simp; omega))) | (with_reducible refine' Blk.set2_1 ?_ ?hb; case hb => (first | omega | (simp; done) | (simp; omega))) | (with_reducible refine' Blk.set3_0 ?_ ?hb; case hb => (first | omega | (simp; done) | (simp; omega))) | (with_reducible refine' Blk.set3_1 ?_ ?hb; case hb => (first | omega | (simp; done) | (simp; omega))) | (with_reducible refine' Blk.set3_2 ?_ ?hb; case hb => (first | omega | (simp; done) | (simp; omega))) | (with_reducible refine' Blk.set4_0 ?_ ?hb; case hb => (first | omega | (simp; done) | (simp; omega))) | (with_reducible refine' Blk.set4_1 ?_ ?hb; case hb => (first | omega | (simp; done) | (simp; omega))) | (with_reducible refine' Blk.set4_2 ?_ ?hb; case hb => (first | omega | (simp; done) | (simp; omega))) | (with_reducible refine' Blk.set4_3 ?_ ?hb; case hb => (first | omega | (simp; done) | (simp; omega))) | (with_reducible refine' Blk.set7_0 ?_ ?hb; case hb => (first | omega | (simp; done) | (simp; omega))) | (with_reducible refine' Blk.set7_1 ?_ ?hb; case hb => (first | omega | (simp; done) | (simp; omega))) | (with_reducible refine' Blk.set7_2 ?_ ?hb; case hb => (first | omega | (simp; done) | (simp; omega))) | (with_reducible refine' Blk.set7_3 ?_ ?hb; case hb => (first | omega | (simp; done) | (simp; omega))) | (with_reducible refine' Blk.set7_4 ?_ ?hb; case hb => (first | omega | (simp; done) | (simp; omega))) | (with_reducible refine' Blk.set7_5 ?_ ?hb; case hb => (first | omega | (simp; done) | (simp; omega))) | (with_reducible refine' Blk.set7_6 ?_ ?hb; case hb => (first | omega | (simp; done) | (simp; omega))) | (with_reducible refine Blk.far ?_ ?hb _; case hb => (first | omega | (simp; done) | (simp; omega))) | fail))) hg4 (by omega)
  have B4 := Lib.hid (below_only (B := w.heap.size) (a := w) (by (repeat' (first | with_reducible exact B3.out | with_reducible exact Below.refl _ _ | with_reducible refine below_drew1 ?_ | with_reducible refine below_drewN ?_ _ | with_reducible refine Below.alloc ?_ ?_ _ | with_reducible refine Below.setCell ?_ ?_ _ | omega | (simp; done) | (simp; omega)))) hg4 (by have := B3.out.size; (first | omega | (simp; done) | (simp; omega))) (by omega))
  obtain ⟨⟨d0, d1, d2⟩, e0, e1, e2⟩ := hQ4.get3n
  clear hg4 hQ4 hQ3 B3 hR3
  go_wp2
  exact bodyPost_ret (v := .agg #[.int .i64 p, .int .i64 q, .string t]) (by simp [results, Try.results13, go_sem, d0, d1, d2]) rfl ⟨p, q, t, rfl, hp0, hp1, hq0, hq1, ht, by (repeat' (first | with_reducible exact B4.out | with_reducible exact Below.refl _ _ | with_reducible refine below_drew1 ?_ | with_reducible refine below_drewN ?_ _ | with_reducible refine Below.alloc ?_ ?_ _ | with_reducible refine Below.setCell ?_ ?_ _ | omega | (simp; done) | (simp; omega)))⟩
/-- A drawn receipt and a number, and nothing old turned. -/
def DrSackN (w : World) (e : Ending) (w' : World) : Prop :=
  ∃ (cum tsn : Int) (A : Option Addr) (n c : Nat) (xs : List (Int × Int)), e = .returned (.tuple #[.agg #[.int .i64 cum, .slice A n c], .int .i64 tsn]) ∧ -1 ≤ cum ∧ cum ≤ 65536 ∧ -1 ≤ tsn ∧ tsn ≤ 65536 ∧ n ≤ 10 ∧ n ≤ c ∧ c ≤ maxLen ∧ Gaps w' w'.heap.size A n xs ∧ Below w.heap.size w w'
set_option maxRecDepth 100000 in
set_option maxHeartbeats 4000000 in
theorem c_DrawSackHas (a : Option Addr) (n c : Nat) (w : World) (hC : Code w a n c) : Calls Try.prog 30 #[.slice a n c] w (DrSackN w) := by
  go_enter Try.func30, Try.ntmps30
  go_wp2_with fail
  refine (c_l6Open a n c _ (hC.below ((Below.refl _ _).alloc (Nat.le_refl _) _))).mono ?_
  rintro e w1 ⟨g, rfl, hg, hR, hb⟩
  have hQ := (Blk.new w 28 #[.int .i64 0, .slice none 0 0]).below hb (by simp)
  have hg2 : w.heap.size < g := by simp at hg; omega
  have B1 := Lib.hid (below_step ((Below.refl w.heap.size w).alloc (Nat.le_refl _) _) (by simp) hb)
  clear hb hg
  go_wp2_with fail
  refine (c_l91Sack g 0 _ hR (by omega)).mono ?_
  rintro e w2 ⟨cum, v, xs, rfl, hx0, hx1, hl, hO, hR2, hg3⟩
  obtain ⟨A, c2, rfl, hn1, hn2, hG⟩ := hO.formN rfl
  obtain ⟨m, hm⟩ : ∃ m, xs.length = m := ⟨_, rfl⟩
  rw [hm] at hO hn1 hG hl ⊢
  have hQ2 := hQ.grown hg3 (by omega)
  have B2 := Lib.hid (below_only B1.out hg3 B1.out.size (by omega))
  have hw1 := B1.out.size
  have hgw2 := hR2.lt
  have hql := hQ2.lt
  have HO := Lib.hid hO
  have hgw1 := hR.lt
  have hq1l := hQ.lt
  clear hg3 B1 hQ hR hG hO
  have HOB := Lib.hid (show OG (w2.alloc (.cells #[.int .i64 cum, .slice A m c2] 28)) (w1.heap.size + 1) (.slice A m c2) xs from HO.out.alloc _)
  have hVn : Blk (w2.alloc (.cells #[.int .i64 cum, .slice A m c2] 28)) w2.heap.size 28 #[.int .i64 cum, .slice A m c2] := Blk.new _ _ _
  have hQn := hQ2.alloc (.cells #[.int .i64 cum, .slice A m c2] 28)
  have hRn := hR2.alloc (.cells #[.int .i64 cum, .slice A m c2] 28)
  have BN := Lib.hid (B2.out.alloc B2.out.size (.cells #[.int .i64 cum, .slice A m c2] 28))
  go_wp2_with fail
  refine (c_l3Ok cum _).mono ?_
  rintro e w' ⟨rfl, rfl⟩
  cases hok : serOk cum with
  | false =>
    have VH := Lib.hid (hVn)
    have QH := Lib.hid (hQn)
    have OH := Lib.hid (HOB.out)
    have BH := Lib.hid (BN.out)
    have RH := Lib.hid (hRn)
    have e0 := fun (W : World) (hW : Blk W w2.heap.size 28 #[.int .i64 cum, .slice A m c2]) => show W.cell? ⟨w2.heap.size, 0, none⟩ = some (.int .i64 cum) from hW.cell 0
    have e1 := fun (W : World) (hW : Blk W w2.heap.size 28 #[.int .i64 cum, .slice A m c2]) => show W.cell? ⟨w2.heap.size, 1, none⟩ = some (.slice A m c2) from hW.cell 1
    go_wp2_with fail
    go_region_held3 (fun w' => Blk w' w2.heap.size 28 #[.int .i64 cum, .slice A m c2])
      ((repeat' (first | (with_reducible exact VH.out) | (with_reducible assumption) | (with_reducible refine Blk.drewN ?_ _) | (with_reducible refine Blk.drew ?_) | (with_reducible refine Blk.alloc ?_ _) | (with_reducible refine Blk.far ?_ ?_ _) | omega | (simp; omega))))
      (first | (go_at_call 54; (with_reducible refine (c_l91Near g 60 cum _ (by (repeat' (first | with_reducible exact RH.out | with_reducible refine Rd.mono RH.out ?_ | with_reducible refine Rd.setCell ?_ ?_ _ | with_reducible refine Rd.alloc ?_ _ | with_reducible refine Rd.drewN ?_ _ | with_reducible refine Rd.drew ?_ | omega | (simp; done) | (simp; omega)))) (by omega)).mono ?_); rintro e wz ⟨u, rfl, hu0, hu1, hRz, hgz⟩; have V9 : Blk wz w2.heap.size 28 #[.int .i64 cum, .slice A m c2] := Blk.grown (by (repeat' (first | (with_reducible exact VH.out) | (with_reducible refine Blk.drewN ?_ _) | (with_reducible refine Blk.drew ?_) | (with_reducible refine Blk.new1 ?hb; case hb => (first | omega | (simp; done) | (simp; omega))) | (with_reducible refine Blk.alloc ?_ _) | (with_reducible refine' Blk.set2_0 ?_ ?hb; case hb => (first | omega | (simp; done) | (simp; omega))) | (with_reducible refine' Blk.set2_1 ?_ ?hb; case hb => (first | omega | (simp; done) | (simp; omega))) | (with_reducible refine' Blk.set3_0 ?_ ?hb; case hb => (first | omega | (simp; done) | (simp; omega))) | (with_reducible refine' Blk.set3_1 ?_ ?hb; case hb => (first | omega | (simp; done) | (simp; omega))) | (with_reducible refine' Blk.set3_2 ?_ ?hb; case hb => (first | omega | (simp; done) | (simp; omega))) | (with_reducible refine' Blk.set4_0 ?_ ?hb; case hb => (first | omega | (simp; done) | (simp; omega))) | (with_reducible refine' Blk.set4_1 ?_ ?hb; case hb => (first | omega | (simp; done) | (simp; omega))) | (with_reducible refine' Blk.set4_2 ?_ ?hb; case hb => (first | omega | (simp; done) | (simp; omega))) | (with_reducible refine' Blk.set4_3 ?_ ?hb; case hb => (first | omega | (simp; done) | (simp; omega))) | (with_reducible refine' Blk.set7_0 ?_ ?hb; case hb => (first | omega | (simp; done) | (simp; omega))) | (with_reducible refine' Blk.set7_1 ?_ ?hb; case hb => (first | omega | (simp; done) | (simp; omega))) | (with_reducible refine' Blk.set7_2 ?_ ?hb; case hb => (first | omega | (simp; done) | (simp; omega))) | (with_reducible refine' Blk.set7_3 ?_ ?hb; case hb => (first | omega | (simp; done) | (simp; omega))) | (with_reducible refine' Blk.set7_4 ?_ ?hb; case hb => (first | omega | (simp; done) | (simp; omega))) | (with_reducible refine' Blk.set7_5 ?_ ?hb; case hb => (first | omega | (simp; done) | (simp; omega))) | (with_reducible refine' Blk.set7_6 ?_ ?hb; case hb => (first | omega | (simp; done) | (simp; omega))) | (with_reducible refine Blk.far ?_ ?hb _; case hb => (first | omega | (simp; done) | (simp; omega))) | fail))) hgz (by omega); have Q9 : Blk wz w.heap.size 28 #[.int .i64 0, .slice none 0 0] := Blk.grown (by (repeat' (first | (with_reducible exact QH.out) | (with_reducible refine Blk.drewN ?_ _) | (with_reducible refine Blk.drew ?_) | (with_reducible refine Blk.new1 ?hb; case hb => (first | omega | (simp; done) | (simp; omega))) | (with_reducible refine Blk.alloc ?_ _) | (with_reducible refine' Blk.set2_0 ?_ ?hb; case hb => (first | omega | (simp; done) | (simp; omega))) | (with_reducible refine' Blk.set2_1 ?_ ?hb; case hb => (first | omega | (simp; done) | (simp; omega))) | (with_reducible refine' Blk.set3_0 ?_ ?hb; case hb => (first | omega | (simp; done) | (simp; omega))) | (with_reducible refine' Blk.set3_1 ?_ ?hb; case hb => (first | omega | (simp; done) | (simp; omega))) | (with_reducible refine' Blk.set3_2 ?_ ?hb; case hb => (first | omega | (simp; done) | (simp; omega))) | (with_reducible refine' Blk.set4_0 ?_ ?hb; case hb => (first | omega | (simp; done) | (simp; omega))) | (with_reducible refine' Blk.set4_1 ?_ ?hb; case hb => (first | omega | (simp; done) | (simp; omega))) | (with_reducible refine' Blk.set4_2 ?_ ?hb; case hb => (first | omega | (simp; done) | (simp; omega))) | (with_reducible refine' Blk.set4_3 ?_ ?hb; case hb => (first | omega | (simp; done) | (simp; omega))) | (with_reducible refine' Blk.set7_0 ?_ ?hb; case hb => (first | omega | (simp; done) | (simp; omega))) | (with_reducible refine' Blk.set7_1 ?_ ?hb; case hb => (first | omega | (simp; done) | (simp; omega))) | (with_reducible refine' Blk.set7_2 ?_ ?hb; case hb => (first | omega | (simp; done) | (simp; omega))) | (with_reducible refine' Blk.set7_3 ?_ ?hb; case hb => (first | omega | (simp; done) | (simp; omega))) | (with_reducible refine' Blk.set7_4 ?_ ?hb; case hb => (first | omega | (simp; done) | (simp; omega))) | (with_reducible refine' Blk.set7_5 ?_ ?hb; case hb => (first | omega | (simp; done) | (simp; omega))) | (with_reducible refine' Blk.set7_6 ?_ ?hb; case hb => (first | omega | (simp; done) | (simp; omega))) | (with_reducible refine Blk.far ?_ ?hb _; case hb => (first | omega | (simp; done) | (simp; omega))) | fail))) hgz (by omega); have O9 : OG wz (w1.heap.size + 1) (.slice A m c2) xs := OG.grown (by (repeat' (first | (with_reducible exact OH.out) | with_reducible refine OG.alloc ?_ _ | with_reducible refine OG.drew ?_ | with_reducible refine OG.drewN ?_ _ | with_reducible refine OG.old ?_ ?_ _ | omega | (simp; done) | (simp; omega)))) hgz (by omega); have B9 : Below w.heap.size w wz := below_only (by (repeat' (first | with_reducible exact BH.out | with_reducible exact Below.refl _ _ | with_reducible refine below_drew1 ?_ | with_reducible refine below_drewN ?_ _ | with_reducible refine Below.alloc ?_ ?_ _ | with_reducible refine Below.setCell ?_ ?_ _ | omega | (simp; done) | (simp; omega)))) hgz (by have := BH.out.size; (first | omega | (simp; done) | (simp; omega))) (by omega); have dd0 : wz.cell? ⟨w.heap.size, 0, none⟩ = some (.int .i64 0) := Q9.cell 0; have dd1 : wz.cell? ⟨w.heap.size, 1, none⟩ = some (.slice none 0 0) := Q9.cell 1; have ff0 := Q9.frozen 0; have ff1 := Q9.frozen 1; have hqz := Q9.lt; clear hgz hRz) | fail)
    clear e0 e1 dd0 dd1 ff0 ff1
    obtain ⟨⟨d0, d1⟩, f0, f1⟩ := Q9.get2n
    have hql2 := Q9.lt
    have O9H := Lib.hid O9
    have B9H := Lib.hid B9
    have V9H := Lib.hid V9
    clear O9 B9 V9 Q9
    go_wp2
    refine bodyPost_ret (v := .tuple #[.agg #[.int .i64 cum, .slice A m c2], .int .i64 u]) (by simp [results, Try.results30, go_sem, d0, d1]) rfl ?_
    have HO2 := (O9H.out.old (p := ⟨w.heap.size, 0, none⟩) (by show w.heap.size < _; omega) (.int .i64 cum)).old (p := ⟨w.heap.size, 1, none⟩) (by show w.heap.size < _; omega) (.slice A m c2)
    obtain ⟨A', c', he, h1, h2, h3⟩ := HO2.formN hm
    cases he
    exact ⟨cum, u, A, m, c2, xs, rfl, hx0, hx1, by omega, by omega, hl, h1, h2, h3, by (repeat' (first | with_reducible exact B9H.out | with_reducible exact Below.refl _ _ | with_reducible refine below_drew1 ?_ | with_reducible refine below_drewN ?_ _ | with_reducible refine Below.alloc ?_ ?_ _ | with_reducible refine Below.setCell ?_ ?_ _ | omega | (simp; done) | (simp; omega)))⟩
  | true =>
    obtain ⟨ha, ha1⟩ := serOk_yes hok
    go_wp2_with fail
    refine (c_pick g 60 6 _ (by (repeat' (first | with_reducible exact hRn.mono (by omega) | with_reducible refine Rd.mono hRn.mono (by omega) ?_ | with_reducible refine Rd.setCell ?_ ?_ _ | with_reducible refine Rd.alloc ?_ _ | with_reducible refine Rd.drewN ?_ _ | with_reducible refine Rd.drew ?_ | omega | (simp; done) | (simp; omega)))) (by omega) (by omega)).mono ?_
    rintro e wy ⟨y, rfl, hy0, hy1, hRy, hgy⟩
    have V8 : Blk wy w2.heap.size 28 #[.int .i64 cum, .slice A m c2] := Blk.grown hVn hgy (by omega)
    have Q8 : Blk wy w.heap.size 28 #[.int .i64 0, .slice none 0 0] := Blk.grown hQn hgy (by omega)
    have O8 : OG wy (w1.heap.size + 1) (.slice A m c2) xs := OG.grown HOB.out hgy (by omega)
    have B8 : Below w.heap.size w wy := below_only BN.out hgy (by have := BN.out.size; (first | omega | (simp; done) | (simp; omega))) (by omega)
    clear hgy
    have z8 := B8.size
    by_cases hy : 0 < y
    · have VH := Lib.hid (V8)
      have QH := Lib.hid (Q8)
      have OH := Lib.hid (O8)
      have BH := Lib.hid (B8)
      have RH := Lib.hid (hRy)
      have e0 := fun (W : World) (hW : Blk W w2.heap.size 28 #[.int .i64 cum, .slice A m c2]) => show W.cell? ⟨w2.heap.size, 0, none⟩ = some (.int .i64 cum) from hW.cell 0
      have e1 := fun (W : World) (hW : Blk W w2.heap.size 28 #[.int .i64 cum, .slice A m c2]) => show W.cell? ⟨w2.heap.size, 1, none⟩ = some (.slice A m c2) from hW.cell 1
      go_wp2_with fail
      go_region_held3 (fun w' => Blk w' w2.heap.size 28 #[.int .i64 cum, .slice A m c2])
        ((repeat' (first | (with_reducible exact VH.out) | (with_reducible assumption) | (with_reducible refine Blk.drewN ?_ _) | (with_reducible refine Blk.drew ?_) | (with_reducible refine Blk.alloc ?_ _) | (with_reducible refine Blk.far ?_ ?_ _) | omega | (simp; omega))))
        (first | (go_at_call 52; (with_reducible refine (c_pick g 61 20 _ (by (repeat' (first | with_reducible exact RH.out | with_reducible refine Rd.mono RH.out ?_ | with_reducible refine Rd.setCell ?_ ?_ _ | with_reducible refine Rd.alloc ?_ _ | with_reducible refine Rd.drewN ?_ _ | with_reducible refine Rd.drew ?_ | omega | (simp; done) | (simp; omega)))) (by omega) (by omega)).mono ?_); rintro e wz ⟨u, rfl, hu0, hu1, hRz, hgz⟩; have V9 : Blk wz w2.heap.size 28 #[.int .i64 cum, .slice A m c2] := Blk.grown (by (repeat' (first | (with_reducible exact VH.out) | (with_reducible refine Blk.drewN ?_ _) | (with_reducible refine Blk.drew ?_) | (with_reducible refine Blk.new1 ?hb; case hb => (first | omega | (simp; done) | (simp; omega))) | (with_reducible refine Blk.alloc ?_ _) | (with_reducible refine' Blk.set2_0 ?_ ?hb; case hb => (first | omega | (simp; done) | (simp; omega))) | (with_reducible refine' Blk.set2_1 ?_ ?hb; case hb => (first | omega | (simp; done) | (simp; omega))) | (with_reducible refine' Blk.set3_0 ?_ ?hb; case hb => (first | omega | (simp; done) | (simp; omega))) | (with_reducible refine' Blk.set3_1 ?_ ?hb; case hb => (first | omega | (simp; done) | (simp; omega))) | (with_reducible refine' Blk.set3_2 ?_ ?hb; case hb => (first | omega | (simp; done) | (simp; omega))) | (with_reducible refine' Blk.set4_0 ?_ ?hb; case hb => (first | omega | (simp; done) | (simp; omega))) | (with_reducible refine' Blk.set4_1 ?_ ?hb; case hb => (first | omega | (simp; done) | (simp; omega))) | (with_reducible refine' Blk.set4_2 ?_ ?hb; case hb => (first | omega | (simp; done) | (simp; omega))) | (with_reducible refine' Blk.set4_3 ?_ ?hb; case hb => (first | omega | (simp; done) | (simp; omega))) | (with_reducible refine' Blk.set7_0 ?_ ?hb; case hb => (first | omega | (simp; done) | (simp; omega))) | (with_reducible refine' Blk.set7_1 ?_ ?hb; case hb => (first | omega | (simp; done) | (simp; omega))) | (with_reducible refine' Blk.set7_2 ?_ ?hb; case hb => (first | omega | (simp; done) | (simp; omega))) | (with_reducible refine' Blk.set7_3 ?_ ?hb; case hb => (first | omega | (simp; done) | (simp; omega))) | (with_reducible refine' Blk.set7_4 ?_ ?hb; case hb => (first | omega | (simp; done) | (simp; omega))) | (with_reducible refine' Blk.set7_5 ?_ ?hb; case hb => (first | omega | (simp; done) | (simp; omega))) | (with_reducible refine' Blk.set7_6 ?_ ?hb; case hb => (first | omega | (simp; done) | (simp; omega))) | (with_reducible refine Blk.far ?_ ?hb _; case hb => (first | omega | (simp; done) | (simp; omega))) | fail))) hgz (by omega); have Q9 : Blk wz w.heap.size 28 #[.int .i64 0, .slice none 0 0] := Blk.grown (by (repeat' (first | (with_reducible exact QH.out) | (with_reducible refine Blk.drewN ?_ _) | (with_reducible refine Blk.drew ?_) | (with_reducible refine Blk.new1 ?hb; case hb => (first | omega | (simp; done) | (simp; omega))) | (with_reducible refine Blk.alloc ?_ _) | (with_reducible refine' Blk.set2_0 ?_ ?hb; case hb => (first | omega | (simp; done) | (simp; omega))) | (with_reducible refine' Blk.set2_1 ?_ ?hb; case hb => (first | omega | (simp; done) | (simp; omega))) | (with_reducible refine' Blk.set3_0 ?_ ?hb; case hb => (first | omega | (simp; done) | (simp; omega))) | (with_reducible refine' Blk.set3_1 ?_ ?hb; case hb => (first | omega | (simp; done) | (simp; omega))) | (with_reducible refine' Blk.set3_2 ?_ ?hb; case hb => (first | omega | (simp; done) | (simp; omega))) | (with_reducible refine' Blk.set4_0 ?_ ?hb; case hb => (first | omega | (simp; done) | (simp; omega))) | (with_reducible refine' Blk.set4_1 ?_ ?hb; case hb => (first | omega | (simp; done) | (simp; omega))) | (with_reducible refine' Blk.set4_2 ?_ ?hb; case hb => (first | omega | (simp; done) | (simp; omega))) | (with_reducible refine' Blk.set4_3 ?_ ?hb; case hb => (first | omega | (simp; done) | (simp; omega))) | (with_reducible refine' Blk.set7_0 ?_ ?hb; case hb => (first | omega | (simp; done) | (simp; omega))) | (with_reducible refine' Blk.set7_1 ?_ ?hb; case hb => (first | omega | (simp; done) | (simp; omega))) | (with_reducible refine' Blk.set7_2 ?_ ?hb; case hb => (first | omega | (simp; done) | (simp; omega))) | (with_reducible refine' Blk.set7_3 ?_ ?hb; case hb => (first | omega | (simp; done) | (simp; omega))) | (with_reducible refine' Blk.set7_4 ?_ ?hb; case hb => (first | omega | (simp; done) | (simp; omega))) | (with_reducible refine' Blk.set7_5 ?_ ?hb; case hb => (first | omega | (simp; done) | (simp; omega))) | (with_reducible refine' Blk.set7_6 ?_ ?hb; case hb => (first | omega | (simp; done) | (simp; omega))) | (with_reducible refine Blk.far ?_ ?hb _; case hb => (first | omega | (simp; done) | (simp; omega))) | fail))) hgz (by omega); have O9 : OG wz (w1.heap.size + 1) (.slice A m c2) xs := OG.grown (by (repeat' (first | (with_reducible exact OH.out) | with_reducible refine OG.alloc ?_ _ | with_reducible refine OG.drew ?_ | with_reducible refine OG.drewN ?_ _ | with_reducible refine OG.old ?_ ?_ _ | omega | (simp; done) | (simp; omega)))) hgz (by omega); have B9 : Below w.heap.size w wz := below_only (by (repeat' (first | with_reducible exact BH.out | with_reducible exact Below.refl _ _ | with_reducible refine below_drew1 ?_ | with_reducible refine below_drewN ?_ _ | with_reducible refine Below.alloc ?_ ?_ _ | with_reducible refine Below.setCell ?_ ?_ _ | omega | (simp; done) | (simp; omega)))) hgz (by have := BH.out.size; (first | omega | (simp; done) | (simp; omega))) (by omega); have dd0 : wz.cell? ⟨w.heap.size, 0, none⟩ = some (.int .i64 0) := Q9.cell 0; have dd1 : wz.cell? ⟨w.heap.size, 1, none⟩ = some (.slice none 0 0) := Q9.cell 1; have ff0 := Q9.frozen 0; have ff1 := Q9.frozen 1; have hqz := Q9.lt; clear hgz hRz; have sr := serAdd_range cum (u - 2); have hwu : IntKind.i64.wrap (u - 2) = u - 2 := IntWalk.i64_in _ (by omega)) | (go_at_call 53; (with_reducible refine (c_l3Add cum (u - 2) _ ha ha1).mono ?_); rintro e w' ⟨rfl, rfl⟩) | fail)
      clear e0 e1 dd0 dd1 ff0 ff1
      obtain ⟨⟨d0, d1⟩, f0, f1⟩ := Q9.get2n
      have hql2 := Q9.lt
      have O9H := Lib.hid O9
      have B9H := Lib.hid B9
      have V9H := Lib.hid V9
      clear O9 B9 V9 Q9
      go_wp2
      refine bodyPost_ret (v := .tuple #[.agg #[.int .i64 cum, .slice A m c2], .int .i64 (serAdd cum (u - 2))]) (by simp [results, Try.results30, go_sem, d0, d1]) rfl ?_
      have HO2 := (O9H.out.old (p := ⟨w.heap.size, 0, none⟩) (by show w.heap.size < _; omega) (.int .i64 cum)).old (p := ⟨w.heap.size, 1, none⟩) (by show w.heap.size < _; omega) (.slice A m c2)
      obtain ⟨A', c', he, h1, h2, h3⟩ := HO2.formN hm
      cases he
      exact ⟨cum, (serAdd cum (u - 2)), A, m, c2, xs, rfl, hx0, hx1, by omega, by omega, hl, h1, h2, h3, by (repeat' (first | with_reducible exact B9H.out | with_reducible exact Below.refl _ _ | with_reducible refine below_drew1 ?_ | with_reducible refine below_drewN ?_ _ | with_reducible refine Below.alloc ?_ ?_ _ | with_reducible refine Below.setCell ?_ ?_ _ | omega | (simp; done) | (simp; omega)))⟩
    · have hy3 : y = 0 := by omega
      subst hy3
      have VH := Lib.hid (V8)
      have QH := Lib.hid (Q8)
      have OH := Lib.hid (O8)
      have BH := Lib.hid (B8)
      have RH := Lib.hid (hRy)
      have e0 := fun (W : World) (hW : Blk W w2.heap.size 28 #[.int .i64 cum, .slice A m c2]) => show W.cell? ⟨w2.heap.size, 0, none⟩ = some (.int .i64 cum) from hW.cell 0
      have e1 := fun (W : World) (hW : Blk W w2.heap.size 28 #[.int .i64 cum, .slice A m c2]) => show W.cell? ⟨w2.heap.size, 1, none⟩ = some (.slice A m c2) from hW.cell 1
      go_wp2_with fail
      go_region_held3 (fun w' => Blk w' w2.heap.size 28 #[.int .i64 cum, .slice A m c2])
        ((repeat' (first | (with_reducible exact VH.out) | (with_reducible assumption) | (with_reducible refine Blk.drewN ?_ _) | (with_reducible refine Blk.drew ?_) | (with_reducible refine Blk.alloc ?_ _) | (with_reducible refine Blk.far ?_ ?_ _) | omega | (simp; omega))))
        (first | (go_at_call 54; (with_reducible refine (c_l91Near g 61 cum _ (by (repeat' (first | with_reducible exact RH.out | with_reducible refine Rd.mono RH.out ?_ | with_reducible refine Rd.setCell ?_ ?_ _ | with_reducible refine Rd.alloc ?_ _ | with_reducible refine Rd.drewN ?_ _ | with_reducible refine Rd.drew ?_ | omega | (simp; done) | (simp; omega)))) (by omega)).mono ?_); rintro e wz ⟨u, rfl, hu0, hu1, hRz, hgz⟩; have V9 : Blk wz w2.heap.size 28 #[.int .i64 cum, .slice A m c2] := Blk.grown (by (repeat' (first | (with_reducible exact VH.out) | (with_reducible refine Blk.drewN ?_ _) | (with_reducible refine Blk.drew ?_) | (with_reducible refine Blk.new1 ?hb; case hb => (first | omega | (simp; done) | (simp; omega))) | (with_reducible refine Blk.alloc ?_ _) | (with_reducible refine' Blk.set2_0 ?_ ?hb; case hb => (first | omega | (simp; done) | (simp; omega))) | (with_reducible refine' Blk.set2_1 ?_ ?hb; case hb => (first | omega | (simp; done) | (simp; omega))) | (with_reducible refine' Blk.set3_0 ?_ ?hb; case hb => (first | omega | (simp; done) | (simp; omega))) | (with_reducible refine' Blk.set3_1 ?_ ?hb; case hb => (first | omega | (simp; done) | (simp; omega))) | (with_reducible refine' Blk.set3_2 ?_ ?hb; case hb => (first | omega | (simp; done) | (simp; omega))) | (with_reducible refine' Blk.set4_0 ?_ ?hb; case hb => (first | omega | (simp; done) | (simp; omega))) | (with_reducible refine' Blk.set4_1 ?_ ?hb; case hb => (first | omega | (simp; done) | (simp; omega))) | (with_reducible refine' Blk.set4_2 ?_ ?hb; case hb => (first | omega | (simp; done) | (simp; omega))) | (with_reducible refine' Blk.set4_3 ?_ ?hb; case hb => (first | omega | (simp; done) | (simp; omega))) | (with_reducible refine' Blk.set7_0 ?_ ?hb; case hb => (first | omega | (simp; done) | (simp; omega))) | (with_reducible refine' Blk.set7_1 ?_ ?hb; case hb => (first | omega | (simp; done) | (simp; omega))) | (with_reducible refine' Blk.set7_2 ?_ ?hb; case hb => (first | omega | (simp; done) | (simp; omega))) | (with_reducible refine' Blk.set7_3 ?_ ?hb; case hb => (first | omega | (simp; done) | (simp; omega))) | (with_reducible refine' Blk.set7_4 ?_ ?hb; case hb => (first | omega | (simp; done) | (simp; omega))) | (with_reducible refine' Blk.set7_5 ?_ ?hb; case hb => (first | omega | (simp; done) | (simp; omega))) | (with_reducible refine' Blk.set7_6 ?_ ?hb; case hb => (first | omega | (simp; done) | (simp; omega))) | (with_reducible refine Blk.far ?_ ?hb _; case hb => (first | omega | (simp; done) | (simp; omega))) | fail))) hgz (by omega); have Q9 : Blk wz w.heap.size 28 #[.int .i64 0, .slice none 0 0] := Blk.grown (by (repeat' (first | (with_reducible exact QH.out) | (with_reducible refine Blk.drewN ?_ _) | (with_reducible refine Blk.drew ?_) | (with_reducible refine Blk.new1 ?hb; case hb => (first | omega | (simp; done) | (simp; omega))) | (with_reducible refine Blk.alloc ?_ _) | (with_reducible refine' Blk.set2_0 ?_ ?hb; case hb => (first | omega | (simp; done) | (simp; omega))) | (with_reducible refine' Blk.set2_1 ?_ ?hb; case hb => (first | omega | (simp; done) | (simp; omega))) | (with_reducible refine' Blk.set3_0 ?_ ?hb; case hb => (first | omega | (simp; done) | (simp; omega))) | (with_reducible refine' Blk.set3_1 ?_ ?hb; case hb => (first | omega | (simp; done) | (simp; omega))) | (with_reducible refine' Blk.set3_2 ?_ ?hb; case hb => (first | omega | (simp; done) | (simp; omega))) | (with_reducible refine' Blk.set4_0 ?_ ?hb; case hb => (first | omega | (simp; done) | (simp; omega))) | (with_reducible refine' Blk.set4_1 ?_ ?hb; case hb => (first | omega | (simp; done) | (simp; omega))) | (with_reducible refine' Blk.set4_2 ?_ ?hb; case hb => (first | omega | (simp; done) | (simp; omega))) | (with_reducible refine' Blk.set4_3 ?_ ?hb; case hb => (first | omega | (simp; done) | (simp; omega))) | (with_reducible refine' Blk.set7_0 ?_ ?hb; case hb => (first | omega | (simp; done) | (simp; omega))) | (with_reducible refine' Blk.set7_1 ?_ ?hb; case hb => (first | omega | (simp; done) | (simp; omega))) | (with_reducible refine' Blk.set7_2 ?_ ?hb; case hb => (first | omega | (simp; done) | (simp; omega))) | (with_reducible refine' Blk.set7_3 ?_ ?hb; case hb => (first | omega | (simp; done) | (simp; omega))) | (with_reducible refine' Blk.set7_4 ?_ ?hb; case hb => (first | omega | (simp; done) | (simp; omega))) | (with_reducible refine' Blk.set7_5 ?_ ?hb; case hb => (first | omega | (simp; done) | (simp; omega))) | (with_reducible refine' Blk.set7_6 ?_ ?hb; case hb => (first | omega | (simp; done) | (simp; omega))) | (with_reducible refine Blk.far ?_ ?hb _; case hb => (first | omega | (simp; done) | (simp; omega))) | fail))) hgz (by omega); have O9 : OG wz (w1.heap.size + 1) (.slice A m c2) xs := OG.grown (by (repeat' (first | (with_reducible exact OH.out) | with_reducible refine OG.alloc ?_ _ | with_reducible refine OG.drew ?_ | with_reducible refine OG.drewN ?_ _ | with_reducible refine OG.old ?_ ?_ _ | omega | (simp; done) | (simp; omega)))) hgz (by omega); have B9 : Below w.heap.size w wz := below_only (by (repeat' (first | with_reducible exact BH.out | with_reducible exact Below.refl _ _ | with_reducible refine below_drew1 ?_ | with_reducible refine below_drewN ?_ _ | with_reducible refine Below.alloc ?_ ?_ _ | with_reducible refine Below.setCell ?_ ?_ _ | omega | (simp; done) | (simp; omega)))) hgz (by have := BH.out.size; (first | omega | (simp; done) | (simp; omega))) (by omega); have dd0 : wz.cell? ⟨w.heap.size, 0, none⟩ = some (.int .i64 0) := Q9.cell 0; have dd1 : wz.cell? ⟨w.heap.size, 1, none⟩ = some (.slice none 0 0) := Q9.cell 1; have ff0 := Q9.frozen 0; have ff1 := Q9.frozen 1; have hqz := Q9.lt; clear hgz hRz) | fail)
      clear e0 e1 dd0 dd1 ff0 ff1
      obtain ⟨⟨d0, d1⟩, f0, f1⟩ := Q9.get2n
      have hql2 := Q9.lt
      have O9H := Lib.hid O9
      have B9H := Lib.hid B9
      have V9H := Lib.hid V9
      clear O9 B9 V9 Q9
      go_wp2
      refine bodyPost_ret (v := .tuple #[.agg #[.int .i64 cum, .slice A m c2], .int .i64 u]) (by simp [results, Try.results30, go_sem, d0, d1]) rfl ?_
      have HO2 := (O9H.out.old (p := ⟨w.heap.size, 0, none⟩) (by show w.heap.size < _; omega) (.int .i64 cum)).old (p := ⟨w.heap.size, 1, none⟩) (by show w.heap.size < _; omega) (.slice A m c2)
      obtain ⟨A', c', he, h1, h2, h3⟩ := HO2.formN hm
      cases he
      exact ⟨cum, u, A, m, c2, xs, rfl, hx0, hx1, by omega, by omega, hl, h1, h2, h3, by (repeat' (first | with_reducible exact B9H.out | with_reducible exact Below.refl _ _ | with_reducible refine below_drew1 ?_ | with_reducible refine below_drewN ?_ _ | with_reducible refine Below.alloc ?_ ?_ _ | with_reducible refine Below.setCell ?_ ?_ _ | omega | (simp; done) | (simp; omega)))⟩
end Go.Proofs.Ytokjdnfohbabgaa
