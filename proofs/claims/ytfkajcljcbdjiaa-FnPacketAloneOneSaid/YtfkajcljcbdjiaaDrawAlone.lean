/-
  Drawn packets: a chunk of which is often one that must be alone.
-/
import Derived.Test.YtfkajcljcbdjiaaDrawPackL
import Derived.Deep.RegionWith
import Derived.Deep.DeepCutAuto
namespace Go.Proofs.Ytfkajcljcbdjiaa
set_option linter.unusedVariables false
set_option linter.unusedSimpArgs false
open Go.RowKit

/-- Where a row of the call's own lies, if it is not none. -/
theorem OG.at_ {w : World} {base m c : Nat} {A : Option Addr} {xs : List (Int × Int × ByteArray)} (h : OG w base (.slice A m c) xs) (hm : xs.length = m) (h0 : 0 < m) : ∃ gr, A = some ⟨gr, 0, none⟩ ∧ base ≤ gr := by
  rcases h.2 with ⟨h1, h2⟩ | ⟨g, cap, cur, h1, hb, _⟩
  · omega
  · injection h1 with h1
    exact ⟨g, h1, hb⟩
theorem OG.cell0 {w : World} {base gr m c : Nat} {xs : List (Int × Int × ByteArray)} (h : OG w base (.slice (some ⟨gr, 0, none⟩) m c) xs) (hm : xs.length = m) (i : Nat) (hi : i < m) :
    w.cell? ⟨gr, i * 3, none⟩ = some (.int .i64 (xs.getD i ch0).1) ∧ w.frozen? ⟨gr, i * 3, none⟩ = false ∧ gr < w.heap.size ∧ base ≤ gr := by
  obtain ⟨A, c', he, _, _, hG⟩ := h.formN hm
  cases he
  obtain ⟨b, o, e, hb, hc⟩ := hG.2 (by omega)
  injection e with e
  injection e with e1 e2
  subst e1 e2
  obtain ⟨c0, _⟩ := hc i hi
  rw [Nat.zero_add] at c0
  rcases h.2 with ⟨h1, _⟩ | ⟨g, cap, cur, h1, hb', hg, _⟩
  · simp at h1
  · injection h1 with h1 h2 h3
    injection h1 with h1
    injection h1 with h1
    subst h1
    exact ⟨c0, by simp [World.frozen?, hg], hb, hb'⟩
/-- A store into the kind of one chunk. -/
theorem Gaps.put {w : World} {B gr n : Nat} {xs : List (Int × Int × ByteArray)} (h : Gaps w B (some ⟨gr, 0, none⟩) n xs) {i : Nat} (hi : i < n) (x : Int) : Gaps (w.setCell ⟨gr, i * 3, none⟩ (.int .i64 x)) B (some ⟨gr, 0, none⟩) n (xs.set i (x, (xs.getD i ch0).2)) := by
  have hl := h.1
  refine ⟨by simpa using hl, fun h0 => ?_⟩
  obtain ⟨b, o, e, hb, hc⟩ := h.2 h0
  injection e with e
  injection e with e1 e2
  subst e1 e2
  refine ⟨gr, 0, rfl, hb, fun k hk => ?_⟩
  obtain ⟨c0, c1, c2⟩ := hc k hk
  have hg : (xs.set i (x, (xs.getD i ch0).2)).getD k ch0 = if i = k then (x, (xs.getD i ch0).2) else xs.getD k ch0 := by
    rw [List.getD_eq_getElem?_getD, List.getElem?_set]
    by_cases he : i = k
    · subst he; rw [if_pos rfl, if_pos rfl, if_pos (by omega)]; rfl
    · rw [if_neg he, if_neg he, ← List.getD_eq_getElem?_getD]
  rw [hg]
  by_cases he : i = k
  · subst he
    rw [if_pos rfl]
    refine ⟨?_, ?_, ?_⟩
    · rw [Nat.zero_add] at c0 ⊢; exact World.cell?_setCell_same _ _ _ c0
    · rw [World.cell?_setCell_other _ _ _ _ (by intro e; injection e with e1 e2; omega)]; exact c1
    · rw [World.cell?_setCell_other _ _ _ _ (by intro e; injection e with e1 e2; omega)]; exact c2
  · rw [if_neg he]
    refine ⟨?_, ?_, ?_⟩
    · rw [World.cell?_setCell_other _ _ _ _ (by intro e; injection e with e1 e2; omega)]; exact c0
    · rw [World.cell?_setCell_other _ _ _ _ (by intro e; injection e with e1 e2; omega)]; exact c1
    · rw [World.cell?_setCell_other _ _ _ _ (by intro e; injection e with e1 e2; omega)]; exact c2
theorem Gaps.other {w : World} {B gr n : Nat} {xs : List (Int × Int × ByteArray)} (h : Gaps w B (some ⟨gr, 0, none⟩) n xs) {p : Addr} (hp : p.block ≠ gr) (u : Value) : Gaps (w.setCell p u) B (some ⟨gr, 0, none⟩) n xs := by
  refine ⟨h.1, fun h0 => ?_⟩
  obtain ⟨b, o, e, hb, hc⟩ := h.2 h0
  injection e with e
  injection e with e1 e2
  subst e1 e2
  refine ⟨gr, 0, rfl, hb, fun k hk => ?_⟩
  obtain ⟨c0, c1, c2⟩ := hc k hk
  have hne : ∀ o, p ≠ (⟨gr, o, none⟩ : Addr) := fun o e => hp (by rw [e])
  refine ⟨?_, ?_, ?_⟩
  · rw [World.cell?_setCell_other _ _ _ _ (hne _)]; exact c0
  · rw [World.cell?_setCell_other _ _ _ _ (hne _)]; exact c1
  · rw [World.cell?_setCell_other _ _ _ _ (hne _)]; exact c2
theorem ChGood.set {xs : List (Int × Int × ByteArray)} (h : ChGood xs) {i : Nat} (hi : i < xs.length) {x : Int} (hx : 1 ≤ x) (hx1 : x ≤ 14) : ChGood (xs.set i (x, (xs.getD i ch0).2)) := fun y hy => by
  rcases List.mem_or_eq_of_mem_set hy with h1 | h1
  · exact h y h1
  · subst h1
    have := h.get i hi
    exact ⟨by show -1 ≤ x; omega, by show x ≤ 256; omega, this.2.2.1, this.2.2.2.1, this.2.2.2.2⟩
set_option maxRecDepth 100000 in
set_option maxHeartbeats 8000000 in
theorem c_DrawPacketAlone (a : Option Addr) (n c : Nat) (w : World) (hC : Code w a n c) : Calls Try.prog 27 #[.slice a n c] w (DrPack w) := by
  go_enter Try.func27, Try.ntmps27
  go_wp2_with fail
  refine (c_l6Open a n c _ (hC.below ((Below.refl _ _).alloc (Nat.le_refl _) _))).mono ?_
  rintro e w1 ⟨g, rfl, hg, hR, hb⟩
  have hQ := (Blk.new w 25 #[.int .i64 0, .int .i64 0, .int .i64 0, .slice none 0 0]).below hb (by simp)
  have hg2 : w.heap.size < g := by simp at hg; omega
  have B1 := Lib.hid (below_step ((Below.refl w.heap.size w).alloc (Nat.le_refl _) _) (by simp) hb)
  clear hb hg
  go_wp2_with fail
  refine (c_l91Packet g 0 _ hR (by omega)).mono ?_
  rintro e w2 ⟨f, t, tag, v, xs, rfl, hf0, hf1, ht0, ht1, htg0, htg1, hl, hgood, hO, hR2, hg3⟩
  obtain ⟨A, c2, rfl, hn1, hn2, hG⟩ := hO.formN rfl
  obtain ⟨m, hm⟩ : ∃ m, xs.length = m := ⟨_, rfl⟩
  rw [hm] at hO hn1 hG hl ⊢
  have hQ2 := hQ.grown hg3 (by omega)
  have B2 := Lib.hid (below_only B1.out hg3 B1.out.size (by omega))
  have hw1 := B1.out.size
  have hgw2 := hR2.lt
  have hgw1 := hR.lt
  have HO := Lib.hid hO
  have HGD := Lib.hid hgood
  have HM := Lib.hid hm
  have hql := hQ2.lt
  have h1l := hQ.lt
  clear hg3 B1 hQ hR hG hO hgood hm
  by_cases hm0 : m = 0
  · subst hm0
    obtain ⟨⟨d0, d1, d2, d3⟩, e0, e1, e2, e3⟩ := hQ2.get4
    have hne : w.heap.size ≠ w2.heap.size := by omega
    have hnb : (w.heap.size == w2.heap.size) = false := by simpa using hne
    go_wp2
    refine bodyPost_ret (v := .agg #[.int .i64 f, .int .i64 t, .int .i64 tag, .slice A 0 c2]) (by simp [results, Try.results27, go_sem, d0, d1, d2, d3, hql, hne]) rfl ?_
    exact ⟨f, t, tag, A, 0, c2, xs, rfl, hf0, hf1, ht0, ht1, htg0, htg1, by omega, hn1, hn2, HGD.out, ⟨HM.out, fun h => absurd h (by omega)⟩, by (repeat' (first | with_reducible exact B2.out | with_reducible exact Below.refl _ _ | with_reducible refine below_drew1 ?_ | with_reducible refine below_drewN ?_ _ | with_reducible refine Below.alloc ?_ ?_ _ | with_reducible refine Below.setCell ?_ ?_ _ | omega | (simp; done) | (simp; omega)))⟩
  · obtain ⟨gr, rfl, hgr⟩ := OG.at_ HO.out HM.out (by omega)
    have hmi : (0 : Int) < (m : Int) := by omega
    have hVn : Blk (w2.alloc (.cells #[.int .i64 f, .int .i64 t, .int .i64 tag, .slice (some ⟨gr, 0, none⟩) m c2] 25)) w2.heap.size 25 #[.int .i64 f, .int .i64 t, .int .i64 tag, .slice (some ⟨gr, 0, none⟩) m c2] := Blk.new _ _ _
    have hOn : OG (w2.alloc (.cells #[.int .i64 f, .int .i64 t, .int .i64 tag, .slice (some ⟨gr, 0, none⟩) m c2] 25)) (w1.heap.size + 1) (.slice (some ⟨gr, 0, none⟩) m c2) xs := HO.out.alloc _
    have hZn := hQ2.alloc (.cells #[.int .i64 f, .int .i64 t, .int .i64 tag, .slice (some ⟨gr, 0, none⟩) m c2] 25)
    have hRn := hR2.alloc (.cells #[.int .i64 f, .int .i64 t, .int .i64 tag, .slice (some ⟨gr, 0, none⟩) m c2] 25)
    have hgo := (HO.out.cell0 HM.out 0 (by omega)).2.2.1
    have BN := Lib.hid (B2.out.alloc B2.out.size (.cells #[.int .i64 f, .int .i64 t, .int .i64 tag, .slice (some ⟨gr, 0, none⟩) m c2] 25))
    go_wp2_with fail
    refine (c_pick g 200 3 _ (by (repeat' (first | with_reducible exact hRn.mono (by omega) | with_reducible refine Rd.mono hRn.mono (by omega) ?_ | with_reducible refine Rd.setCell ?_ ?_ _ | with_reducible refine Rd.alloc ?_ _ | with_reducible refine Rd.drewN ?_ _ | with_reducible refine Rd.drew ?_ | omega | (simp; done) | (simp; omega)))) (by omega) (by omega)).mono ?_
    rintro e w4 ⟨v, rfl, hv0, hv1, hR4, hg4⟩
    have hV4 : Blk w4 w2.heap.size 25 #[.int .i64 f, .int .i64 t, .int .i64 tag, .slice (some ⟨gr, 0, none⟩) m c2] := Blk.grown hVn hg4 (by omega)
    have hZ4 : Blk w4 w.heap.size 25 #[.int .i64 0, .int .i64 0, .int .i64 0, .slice none 0 0] := Blk.grown hZn hg4 (by omega)
    have hO4 : OG w4 (w1.heap.size + 1) (.slice (some ⟨gr, 0, none⟩) m c2) xs := OG.grown hOn hg4 (by omega)
    have hB4 : Below w.heap.size w w4 := below_only BN.out hg4 (by have := BN.out.size; (first | omega | (simp; done) | (simp; omega))) (by omega)
    have QV := Lib.hid hV4
    have ZV := Lib.hid hZ4
    have OV := Lib.hid hO4
    have BV := Lib.hid hB4
    have RV := Lib.hid hR4
    have hvl := hV4.lt
    obtain ⟨⟨v0, v1, v2, v3⟩, vf0, vf1, vf2, vf3⟩ := hV4.get4
    clear hg4 hVn hZn hOn hRn BN hV4 hO4 hB4 hR4 HO hQ2 hR2
    by_cases hv : v = 0
    · subst hv
      clear hZ4
      have e3 := fun (W : World) (hW : Blk W w2.heap.size 25 #[.int .i64 f, .int .i64 t, .int .i64 tag, .slice (some ⟨gr, 0, none⟩) m c2]) => show W.cell? ⟨w2.heap.size, 3, none⟩ = some (.slice (some ⟨gr, 0, none⟩) m c2) from hW.cell 3
      go_wp2_with fail
      refine wp_region_noPanic ?_
      refine wp_region_held_drew (S := fun W' => Blk W' w2.heap.size 25 #[.int .i64 f, .int .i64 t, .int .i64 tag, .slice (some ⟨gr, 0, none⟩) m c2]) (by kernel_rfl) ?_ (fun hHeld => ?_)
      · (repeat' (first | (with_reducible exact QV.out) | (with_reducible assumption) | (with_reducible refine Blk.drewN ?_ _) | (with_reducible refine Blk.drew ?_) | (with_reducible refine Blk.alloc ?_ _) | (with_reducible refine Blk.far ?_ ?_ _) | omega | (simp; done) | (simp; omega)))
      refine' wpAnyH_take (i := 0) (v := _) rfl (by kernel_rfl) (by kernel_rfl) (by kernel_rfl) (fun _ _ _ h => h) (Or.inl ⟨by rfl, ?hyr1⟩) (by assumption) ?restr1
      case hyr1 => (intro w hSw; (try dsimp only at hSw); go_simp; try with_reducible rfl)
      try simp only [Act.put, List.getElem_toArray, List.getElem_cons_zero, List.getElem_cons_succ, List.setIfInBounds_toArray, List.set_cons_zero, List.set_cons_succ]
      refine' wpAnyH_take (i := 1) (v := _) rfl (by kernel_rfl) (by kernel_rfl) (by kernel_rfl) (fun _ _ _ h => h) (Or.inl ⟨by rfl, ?hyr2⟩) (by assumption) ?restr2
      case hyr2 => (intro w hSw; (try dsimp only at hSw); go_simp; try with_reducible rfl)
      try simp only [Act.put, List.getElem_toArray, List.getElem_cons_zero, List.getElem_cons_succ, List.setIfInBounds_toArray, List.set_cons_zero, List.set_cons_succ]
      refine' wpAnyH_take (i := 2) (v := _) rfl (by kernel_rfl) (by kernel_rfl) (by kernel_rfl) (fun _ _ _ h => h) (Or.inl ⟨by rfl, ?hyr3⟩) (by assumption) ?restr3
      case hyr3 => (intro w hSw; (try dsimp only at hSw); go_simp; try with_reducible rfl)
      try simp only [Act.put, List.getElem_toArray, List.getElem_cons_zero, List.getElem_cons_succ, List.setIfInBounds_toArray, List.set_cons_zero, List.set_cons_succ]
      refine' wpAnyH_take (i := 3) (v := _) rfl (by kernel_rfl) (by kernel_rfl) (by kernel_rfl) (fun _ _ _ h => h) (Or.inl ⟨by rfl, ?hyr4⟩) (by assumption) ?restr4
      case hyr4 => (intro w hSw; (try dsimp only at hSw); go_simp; try with_reducible rfl)
      try simp only [Act.put, List.getElem_toArray, List.getElem_cons_zero, List.getElem_cons_succ, List.setIfInBounds_toArray, List.set_cons_zero, List.set_cons_succ]
      refine' wpAnyH_take (i := 4) (v := _) rfl (by kernel_rfl) (by kernel_rfl) (by kernel_rfl) (fun _ _ _ h => h) (Or.inl ⟨by rfl, ?hyr5⟩) (by assumption) ?restr5
      case hyr5 => (intro w hSw; (try dsimp only at hSw); go_simp; try with_reducible rfl)
      try simp only [Act.put, List.getElem_toArray, List.getElem_cons_zero, List.getElem_cons_succ, List.setIfInBounds_toArray, List.set_cons_zero, List.set_cons_succ]
      refine' wpAnyH_take (i := 5) (v := _) rfl (by kernel_rfl) (by kernel_rfl) (by kernel_rfl) (fun _ _ _ h => h) (Or.inl ⟨by rfl, ?hyr6⟩) (by assumption) ?restr6
      case hyr6 => (intro w hSw; (try dsimp only at hSw); go_simp; try with_reducible rfl)
      try simp only [Act.put, List.getElem_toArray, List.getElem_cons_zero, List.getElem_cons_succ, List.setIfInBounds_toArray, List.set_cons_zero, List.set_cons_succ]
      refine' wpAnyH_take (i := 8) (v := _) rfl (by kernel_rfl) (by kernel_rfl) (by kernel_rfl) (fun _ _ _ h => h) (Or.inl ⟨by rfl, ?hyr7⟩) (by assumption) ?restr7
      case hyr7 => (intro w hSw; (try dsimp only at hSw); go_simp; try with_reducible rfl)
      try simp only [Act.put, List.getElem_toArray, List.getElem_cons_zero, List.getElem_cons_succ, List.setIfInBounds_toArray, List.set_cons_zero, List.set_cons_succ]
      refine wpAnyH_ready (rs := [6, 7]) (by kernel_rfl) (by simp) ?_
      refine AllReadyH.cons (o := _) rfl (fun K hK => ?_) ?_
      · go_simp
        with_reducible refine (c_pick g (200 + 1) m _ (by (repeat' (first | with_reducible exact RV.out | with_reducible refine Rd.mono RV.out ?_ | with_reducible refine Rd.setCell ?_ ?_ _ | with_reducible refine Rd.alloc ?_ _ | with_reducible refine Rd.drewN ?_ _ | with_reducible refine Rd.drew ?_ | omega | (simp; done) | (simp; omega)))) (by omega) (by omega)).mono ?_
        rintro e wa ⟨p, rfl, hp0, hp1, hRa, hga⟩
        have Qa : Blk wa w2.heap.size 25 #[.int .i64 f, .int .i64 t, .int .i64 tag, .slice (some ⟨gr, 0, none⟩) m c2] := Blk.grown (by (repeat' (first | (with_reducible exact QV.out) | (with_reducible refine Blk.drewN ?_ _) | (with_reducible refine Blk.drew ?_) | (with_reducible refine Blk.new1 ?hb; case hb => (first | omega | (simp; done) | (simp; omega))) | (with_reducible refine Blk.alloc ?_ _) | (with_reducible refine' Blk.set2_0 ?_ ?hb; case hb => (first | omega | (simp; done) | (simp; omega))) | (with_reducible refine' Blk.set2_1 ?_ ?hb; case hb => (first | omega | (simp; done) | (simp; omega))) | (with_reducible refine' Blk.set3_0 ?_ ?hb; case hb => (first | omega | (simp; done) | (simp; omega))) | (with_reducible refine' Blk.set3_1 ?_ ?hb; case hb => (first | omega | (simp; done) | (simp; omega))) | (with_reducible refine' Blk.set3_2 ?_ ?hb; case hb => (first | omega | (simp; done) | (simp; omega))) | (with_reducible refine' Blk.set4_0 ?_ ?hb; case hb => (first | omega | (simp; done) | (simp; omega))) | (with_reducible refine' Blk.set4_1 ?_ ?hb; case hb => (first | omega | (simp; done) | (simp; omega))) | (with_reducible refine' Blk.set4_2 ?_ ?hb; case hb => (first | omega | (simp; done) | (simp; omega))) | (with_reducible refine' Blk.set4_3 ?_ ?hb; case hb => (first | omega | (simp; done) | (simp; omega))) | (with_reducible refine' Blk.set7_0 ?_ ?hb; case hb => (first | omega | (simp; done) | (simp; omega))) | (with_reducible refine' Blk.set7_1 ?_ ?hb; case hb => (first | omega | (simp; done) | (simp; omega))) | (with_reducible refine' Blk.set7_2 ?_ ?hb; case hb => (first | omega | (simp; done) | (simp; omega))) | (with_reducible refine' Blk.set7_3 ?_ ?hb; case hb => (first | omega | (simp; done) | (simp; omega))) | (with_reducible refine' Blk.set7_4 ?_ ?hb; case hb => (first | omega | (simp; done) | (simp; omega))) | (with_reducible refine' Blk.set7_5 ?_ ?hb; case hb => (first | omega | (simp; done) | (simp; omega))) | (with_reducible refine' Blk.set7_6 ?_ ?hb; case hb => (first | omega | (simp; done) | (simp; omega))) | (with_reducible refine Blk.far ?_ ?hb _; case hb => (first | omega | (simp; done) | (simp; omega))) | fail))) hga (by omega)
        have Oa : OG wa (w1.heap.size + 1) (.slice (some ⟨gr, 0, none⟩) m c2) xs := OG.grown (by (repeat' (first | (with_reducible exact OV.out) | with_reducible refine OG.alloc ?_ _ | with_reducible refine OG.drew ?_ | with_reducible refine OG.drewN ?_ _ | with_reducible refine OG.old ?_ ?_ _ | omega | (simp; done) | (simp; omega)))) hga (by omega)
        have Za : Blk wa w.heap.size 25 #[.int .i64 0, .int .i64 0, .int .i64 0, .slice none 0 0] := Blk.grown (by (repeat' (first | (with_reducible exact ZV.out) | (with_reducible refine Blk.drewN ?_ _) | (with_reducible refine Blk.drew ?_) | (with_reducible refine Blk.new1 ?hb; case hb => (first | omega | (simp; done) | (simp; omega))) | (with_reducible refine Blk.alloc ?_ _) | (with_reducible refine' Blk.set2_0 ?_ ?hb; case hb => (first | omega | (simp; done) | (simp; omega))) | (with_reducible refine' Blk.set2_1 ?_ ?hb; case hb => (first | omega | (simp; done) | (simp; omega))) | (with_reducible refine' Blk.set3_0 ?_ ?hb; case hb => (first | omega | (simp; done) | (simp; omega))) | (with_reducible refine' Blk.set3_1 ?_ ?hb; case hb => (first | omega | (simp; done) | (simp; omega))) | (with_reducible refine' Blk.set3_2 ?_ ?hb; case hb => (first | omega | (simp; done) | (simp; omega))) | (with_reducible refine' Blk.set4_0 ?_ ?hb; case hb => (first | omega | (simp; done) | (simp; omega))) | (with_reducible refine' Blk.set4_1 ?_ ?hb; case hb => (first | omega | (simp; done) | (simp; omega))) | (with_reducible refine' Blk.set4_2 ?_ ?hb; case hb => (first | omega | (simp; done) | (simp; omega))) | (with_reducible refine' Blk.set4_3 ?_ ?hb; case hb => (first | omega | (simp; done) | (simp; omega))) | (with_reducible refine' Blk.set7_0 ?_ ?hb; case hb => (first | omega | (simp; done) | (simp; omega))) | (with_reducible refine' Blk.set7_1 ?_ ?hb; case hb => (first | omega | (simp; done) | (simp; omega))) | (with_reducible refine' Blk.set7_2 ?_ ?hb; case hb => (first | omega | (simp; done) | (simp; omega))) | (with_reducible refine' Blk.set7_3 ?_ ?hb; case hb => (first | omega | (simp; done) | (simp; omega))) | (with_reducible refine' Blk.set7_4 ?_ ?hb; case hb => (first | omega | (simp; done) | (simp; omega))) | (with_reducible refine' Blk.set7_5 ?_ ?hb; case hb => (first | omega | (simp; done) | (simp; omega))) | (with_reducible refine' Blk.set7_6 ?_ ?hb; case hb => (first | omega | (simp; done) | (simp; omega))) | (with_reducible refine Blk.far ?_ ?hb _; case hb => (first | omega | (simp; done) | (simp; omega))) | fail))) hga (by omega)
        have Ba : Below w.heap.size w wa := below_only (by (repeat' (first | with_reducible exact BV.out | with_reducible exact Below.refl _ _ | with_reducible refine below_drew1 ?_ | with_reducible refine below_drewN ?_ _ | with_reducible refine Below.alloc ?_ ?_ _ | with_reducible refine Below.setCell ?_ ?_ _ | omega | (simp; done) | (simp; omega)))) hga (by have := BV.out.size; (first | omega | (simp; done) | (simp; omega))) (by omega)
        have zqa := Qa.lt
        have BHa := Lib.hid Ba
        have OHa := Lib.hid Oa
        clear Oa Ba
        obtain ⟨i, rfl⟩ := Int.eq_ofNat_of_zero_le hp0
        go_wp2_with fail
        refine hK.out _ _ ?_ (fun hHeld => ?_)
        · (repeat' (first | (with_reducible exact QV.out) | (with_reducible assumption) | (with_reducible refine Blk.drewN ?_ _) | (with_reducible refine Blk.drew ?_) | (with_reducible refine Blk.alloc ?_ _) | (with_reducible refine Blk.far ?_ ?_ _) | omega | (simp; done) | (simp; omega)))
        clear hK K
        try simp only [Act.put, List.getElem_toArray, List.getElem_cons_zero, List.getElem_cons_succ, List.setIfInBounds_toArray, List.set_cons_zero, List.set_cons_succ]
        refine wpAnyH_ready (rs := [7, 9]) (by kernel_rfl) (by simp) ?_
        refine AllReadyH.cons (o := _) rfl (fun K hK => ?_) ?_
        · go_simp
          refine hK.out _ _ ?_ (fun hHeld => ?_)
          · (repeat' (first | (with_reducible exact QV.out) | (with_reducible assumption) | (with_reducible refine Blk.drewN ?_ _) | (with_reducible refine Blk.drew ?_) | (with_reducible refine Blk.alloc ?_ _) | (with_reducible refine Blk.far ?_ ?_ _) | omega | (simp; done) | (simp; omega)))
          clear hK K
          try simp only [Act.put, List.getElem_toArray, List.getElem_cons_zero, List.getElem_cons_succ, List.setIfInBounds_toArray, List.set_cons_zero, List.set_cons_succ]
          refine wpAnyH_ready (rs := [9]) (by kernel_rfl) (by simp) ?_
          refine AllReadyH.cons (o := _) rfl (fun K hK => ?_) ?_
          · go_simp
            with_reducible refine (c_pick g (200 + 1 + 1) 3 _ (by (repeat' (first | with_reducible exact hRa | with_reducible refine Rd.mono hRa ?_ | with_reducible refine Rd.setCell ?_ ?_ _ | with_reducible refine Rd.alloc ?_ _ | with_reducible refine Rd.drewN ?_ _ | with_reducible refine Rd.drew ?_ | omega | (simp; done) | (simp; omega)))) (by omega) (by omega)).mono ?_
            rintro e wb ⟨u, rfl, hu0, hu1, hRb, hgb⟩
            have Qb : Blk wb w2.heap.size 25 #[.int .i64 f, .int .i64 t, .int .i64 tag, .slice (some ⟨gr, 0, none⟩) m c2] := Blk.grown (by (repeat' (first | (with_reducible exact Qa) | (with_reducible refine Blk.drewN ?_ _) | (with_reducible refine Blk.drew ?_) | (with_reducible refine Blk.new1 ?hb; case hb => (first | omega | (simp; done) | (simp; omega))) | (with_reducible refine Blk.alloc ?_ _) | (with_reducible refine' Blk.set2_0 ?_ ?hb; case hb => (first | omega | (simp; done) | (simp; omega))) | (with_reducible refine' Blk.set2_1 ?_ ?hb; case hb => (first | omega | (simp; done) | (simp; omega))) | (with_reducible refine' Blk.set3_0 ?_ ?hb; case hb => (first | omega | (simp; done) | (simp; omega))) | (with_reducible refine' Blk.set3_1 ?_ ?hb; case hb => (first | omega | (simp; done) | (simp; omega))) | (with_reducible refine' Blk.set3_2 ?_ ?hb; case hb => (first | omega | (simp; done) | (simp; omega))) | (with_reducible refine' Blk.set4_0 ?_ ?hb; case hb => (first | omega | (simp; done) | (simp; omega))) | (with_reducible refine' Blk.set4_1 ?_ ?hb; case hb => (first | omega | (simp; done) | (simp; omega))) | (with_reducible refine' Blk.set4_2 ?_ ?hb; case hb => (first | omega | (simp; done) | (simp; omega))) | (with_reducible refine' Blk.set4_3 ?_ ?hb; case hb => (first | omega | (simp; done) | (simp; omega))) | (with_reducible refine' Blk.set7_0 ?_ ?hb; case hb => (first | omega | (simp; done) | (simp; omega))) | (with_reducible refine' Blk.set7_1 ?_ ?hb; case hb => (first | omega | (simp; done) | (simp; omega))) | (with_reducible refine' Blk.set7_2 ?_ ?hb; case hb => (first | omega | (simp; done) | (simp; omega))) | (with_reducible refine' Blk.set7_3 ?_ ?hb; case hb => (first | omega | (simp; done) | (simp; omega))) | (with_reducible refine' Blk.set7_4 ?_ ?hb; case hb => (first | omega | (simp; done) | (simp; omega))) | (with_reducible refine' Blk.set7_5 ?_ ?hb; case hb => (first | omega | (simp; done) | (simp; omega))) | (with_reducible refine' Blk.set7_6 ?_ ?hb; case hb => (first | omega | (simp; done) | (simp; omega))) | (with_reducible refine Blk.far ?_ ?hb _; case hb => (first | omega | (simp; done) | (simp; omega))) | fail))) hgb (by omega)
            have Ob : OG wb (w1.heap.size + 1) (.slice (some ⟨gr, 0, none⟩) m c2) xs := OG.grown (by (repeat' (first | (with_reducible exact OHa.out) | with_reducible refine OG.alloc ?_ _ | with_reducible refine OG.drew ?_ | with_reducible refine OG.drewN ?_ _ | with_reducible refine OG.old ?_ ?_ _ | omega | (simp; done) | (simp; omega)))) hgb (by omega)
            have Zb : Blk wb w.heap.size 25 #[.int .i64 0, .int .i64 0, .int .i64 0, .slice none 0 0] := Blk.grown (by (repeat' (first | (with_reducible exact Za) | (with_reducible refine Blk.drewN ?_ _) | (with_reducible refine Blk.drew ?_) | (with_reducible refine Blk.new1 ?hb; case hb => (first | omega | (simp; done) | (simp; omega))) | (with_reducible refine Blk.alloc ?_ _) | (with_reducible refine' Blk.set2_0 ?_ ?hb; case hb => (first | omega | (simp; done) | (simp; omega))) | (with_reducible refine' Blk.set2_1 ?_ ?hb; case hb => (first | omega | (simp; done) | (simp; omega))) | (with_reducible refine' Blk.set3_0 ?_ ?hb; case hb => (first | omega | (simp; done) | (simp; omega))) | (with_reducible refine' Blk.set3_1 ?_ ?hb; case hb => (first | omega | (simp; done) | (simp; omega))) | (with_reducible refine' Blk.set3_2 ?_ ?hb; case hb => (first | omega | (simp; done) | (simp; omega))) | (with_reducible refine' Blk.set4_0 ?_ ?hb; case hb => (first | omega | (simp; done) | (simp; omega))) | (with_reducible refine' Blk.set4_1 ?_ ?hb; case hb => (first | omega | (simp; done) | (simp; omega))) | (with_reducible refine' Blk.set4_2 ?_ ?hb; case hb => (first | omega | (simp; done) | (simp; omega))) | (with_reducible refine' Blk.set4_3 ?_ ?hb; case hb => (first | omega | (simp; done) | (simp; omega))) | (with_reducible refine' Blk.set7_0 ?_ ?hb; case hb => (first | omega | (simp; done) | (simp; omega))) | (with_reducible refine' Blk.set7_1 ?_ ?hb; case hb => (first | omega | (simp; done) | (simp; omega))) | (with_reducible refine' Blk.set7_2 ?_ ?hb; case hb => (first | omega | (simp; done) | (simp; omega))) | (with_reducible refine' Blk.set7_3 ?_ ?hb; case hb => (first | omega | (simp; done) | (simp; omega))) | (with_reducible refine' Blk.set7_4 ?_ ?hb; case hb => (first | omega | (simp; done) | (simp; omega))) | (with_reducible refine' Blk.set7_5 ?_ ?hb; case hb => (first | omega | (simp; done) | (simp; omega))) | (with_reducible refine' Blk.set7_6 ?_ ?hb; case hb => (first | omega | (simp; done) | (simp; omega))) | (with_reducible refine Blk.far ?_ ?hb _; case hb => (first | omega | (simp; done) | (simp; omega))) | fail))) hgb (by omega)
            have Bb : Below w.heap.size w wb := below_only (by (repeat' (first | with_reducible exact BHa.out | with_reducible exact Below.refl _ _ | with_reducible refine below_drew1 ?_ | with_reducible refine below_drewN ?_ _ | with_reducible refine Below.alloc ?_ ?_ _ | with_reducible refine Below.setCell ?_ ?_ _ | omega | (simp; done) | (simp; omega)))) hgb (by have := BHa.out.size; (first | omega | (simp; done) | (simp; omega))) (by omega)
            have zqb := Qb.lt
            have BHb := Lib.hid Bb
            have OHb := Lib.hid Ob
            clear Ob Bb
            have hii : (i : Int) < (m : Int) := by omega
            have hii0 : (0 : Int) ≤ (i : Int) := by omega
            have him : i < m := by omega
            have hu3 : u < 3 := by omega
            obtain ⟨x, hx, hx0, hx1⟩ := lit_at [1, 2, 14] 1 14 (by decide) u hu0 (by show u < 3; omega)
            obtain ⟨ob0, obf, hgo2, hgo3⟩ := OHb.out.cell0 HM.out i him
            have l5 : wb.cell? ⟨wa.heap.size, u.toNat, none⟩ = some (.int .i64 x) := ((Blk.grown (t := 3) (cs := #[.int .i64 1, .int .i64 2, .int .i64 14]) (by (repeat' (first | (with_reducible refine Blk.drewN ?_ _) | (with_reducible refine Blk.drew ?_) | (with_reducible refine Blk.new1 ?hb; case hb => (first | omega | (simp; done) | (simp; omega))) | (with_reducible refine Blk.alloc ?_ _) | (with_reducible refine' Blk.set2_0 ?_ ?hb; case hb => (first | omega | (simp; done) | (simp; omega))) | (with_reducible refine' Blk.set2_1 ?_ ?hb; case hb => (first | omega | (simp; done) | (simp; omega))) | (with_reducible refine' Blk.set3_0 ?_ ?hb; case hb => (first | omega | (simp; done) | (simp; omega))) | (with_reducible refine' Blk.set3_1 ?_ ?hb; case hb => (first | omega | (simp; done) | (simp; omega))) | (with_reducible refine' Blk.set3_2 ?_ ?hb; case hb => (first | omega | (simp; done) | (simp; omega))) | (with_reducible refine' Blk.set4_0 ?_ ?hb; case hb => (first | omega | (simp; done) | (simp; omega))) | (with_reducible refine' Blk.set4_1 ?_ ?hb; case hb => (first | omega | (simp; done) | (simp; omega))) | (with_reducible refine' Blk.set4_2 ?_ ?hb; case hb => (first | omega | (simp; done) | (simp; omega))) | (with_reducible refine' Blk.set4_3 ?_ ?hb; case hb => (first | omega | (simp; done) | (simp; omega))) | (with_reducible refine' Blk.set7_0 ?_ ?hb; case hb => (first | omega | (simp; done) | (simp; omega))) | (with_reducible refine' Blk.set7_1 ?_ ?hb; case hb => (first | omega | (simp; done) | (simp; omega))) | (with_reducible refine' Blk.set7_2 ?_ ?hb; case hb => (first | omega | (simp; done) | (simp; omega))) | (with_reducible refine' Blk.set7_3 ?_ ?hb; case hb => (first | omega | (simp; done) | (simp; omega))) | (with_reducible refine' Blk.set7_4 ?_ ?hb; case hb => (first | omega | (simp; done) | (simp; omega))) | (with_reducible refine' Blk.set7_5 ?_ ?hb; case hb => (first | omega | (simp; done) | (simp; omega))) | (with_reducible refine' Blk.set7_6 ?_ ?hb; case hb => (first | omega | (simp; done) | (simp; omega))) | (with_reducible refine Blk.far ?_ ?hb _; case hb => (first | omega | (simp; done) | (simp; omega))) | fail))) hgb (by omega)).cell u.toNat).trans hx
            go_wp2_with fail
            refine hK.out _ _ ?_ (fun hHeld => ?_)
            · (repeat' (first | (with_reducible exact QV.out) | (with_reducible assumption) | (with_reducible refine Blk.drewN ?_ _) | (with_reducible refine Blk.drew ?_) | (with_reducible refine Blk.alloc ?_ _) | (with_reducible refine Blk.far ?_ ?_ _) | omega | (simp; done) | (simp; omega)))
            clear hK K
            try simp only [Act.put, List.getElem_toArray, List.getElem_cons_zero, List.getElem_cons_succ, List.setIfInBounds_toArray, List.set_cons_zero, List.set_cons_succ]
            refine' wpAnyH_take (i := 10) (v := _) rfl (by kernel_rfl) (by kernel_rfl) (by kernel_rfl) (fun _ _ _ h => h) (Or.inl ⟨by rfl, ?hyr8⟩) (by assumption) ?restr8
            case hyr8 => (intro w hSw; (try dsimp only at hSw); go_simp; try with_reducible rfl)
            try simp only [Act.put, List.getElem_toArray, List.getElem_cons_zero, List.getElem_cons_succ, List.setIfInBounds_toArray, List.set_cons_zero, List.set_cons_succ]
            refine wpAnyH_ready (rs := [11]) (by kernel_rfl) (by simp) ?_
            refine AllReadyH.cons (o := _) rfl (fun K hK => ?_) ?_
            · go_simp
              refine hK.out _ _ ?_ (fun hHeld => ?_)
              · (repeat' (first | (with_reducible exact QV.out) | (with_reducible assumption) | (with_reducible refine Blk.drewN ?_ _) | (with_reducible refine Blk.drew ?_) | (with_reducible refine Blk.alloc ?_ _) | (with_reducible refine Blk.far ?_ ?_ _) | omega | (simp; done) | (simp; omega)))
              clear hK K
              try simp only [Act.put, List.getElem_toArray, List.getElem_cons_zero, List.getElem_cons_succ, List.setIfInBounds_toArray, List.set_cons_zero, List.set_cons_succ]
              refine' wpAnyH_take (i := 12) (v := _) rfl (by kernel_rfl) (by kernel_rfl) (by kernel_rfl) (fun _ _ _ h => h) (Or.inl ⟨by rfl, ?hyr9⟩) (by assumption) ?restr9
              case hyr9 => (intro w hSw; (try dsimp only at hSw); go_simp; try with_reducible rfl)
              try simp only [Act.put, List.getElem_toArray, List.getElem_cons_zero, List.getElem_cons_succ, List.setIfInBounds_toArray, List.set_cons_zero, List.set_cons_succ]
              refine' wpAnyH_take (i := 13) (v := _) rfl (by kernel_rfl) (by kernel_rfl) (by kernel_rfl) (fun _ _ _ h => h) (Or.inl ⟨by rfl, ?hyr10⟩) (by assumption) ?restr10
              case hyr10 => (intro w hSw; (try dsimp only at hSw); go_simp; try with_reducible rfl)
              try simp only [Act.put, List.getElem_toArray, List.getElem_cons_zero, List.getElem_cons_succ, List.setIfInBounds_toArray, List.set_cons_zero, List.set_cons_succ]
              refine wpAnyH_ready (rs := [14]) (by kernel_rfl) (by simp) ?_
              refine AllReadyH.cons (o := _) rfl (fun K hK => ?_) ?_
              · go_simp
                refine hK.out _ _ ?_ (fun hHeld => ?_)
                · (repeat' (first | (with_reducible exact QV.out) | (with_reducible assumption) | (with_reducible refine Blk.drewN ?_ _) | (with_reducible refine Blk.drew ?_) | (with_reducible refine Blk.alloc ?_ _) | (with_reducible refine Blk.far ?_ ?_ _) | omega | (simp; done) | (simp; omega)))
                clear hK K
                try simp only [Act.put, List.getElem_toArray, List.getElem_cons_zero, List.getElem_cons_succ, List.setIfInBounds_toArray, List.set_cons_zero, List.set_cons_succ]
                refine wpAnyH_done (by kernel_rfl) ?_ _
                refine NoPanic.normal ?_
                have QW : Blk (wb.setCell ⟨gr, i * 3, none⟩ (.int .i64 x)) w2.heap.size 25 #[.int .i64 f, .int .i64 t, .int .i64 tag, .slice (some ⟨gr, 0, none⟩) m c2] := by (repeat' (first | (with_reducible exact Qb) | (with_reducible refine Blk.drewN ?_ _) | (with_reducible refine Blk.drew ?_) | (with_reducible refine Blk.new1 ?hb; case hb => (first | omega | (simp; done) | (simp; omega))) | (with_reducible refine Blk.alloc ?_ _) | (with_reducible refine' Blk.set2_0 ?_ ?hb; case hb => (first | omega | (simp; done) | (simp; omega))) | (with_reducible refine' Blk.set2_1 ?_ ?hb; case hb => (first | omega | (simp; done) | (simp; omega))) | (with_reducible refine' Blk.set3_0 ?_ ?hb; case hb => (first | omega | (simp; done) | (simp; omega))) | (with_reducible refine' Blk.set3_1 ?_ ?hb; case hb => (first | omega | (simp; done) | (simp; omega))) | (with_reducible refine' Blk.set3_2 ?_ ?hb; case hb => (first | omega | (simp; done) | (simp; omega))) | (with_reducible refine' Blk.set4_0 ?_ ?hb; case hb => (first | omega | (simp; done) | (simp; omega))) | (with_reducible refine' Blk.set4_1 ?_ ?hb; case hb => (first | omega | (simp; done) | (simp; omega))) | (with_reducible refine' Blk.set4_2 ?_ ?hb; case hb => (first | omega | (simp; done) | (simp; omega))) | (with_reducible refine' Blk.set4_3 ?_ ?hb; case hb => (first | omega | (simp; done) | (simp; omega))) | (with_reducible refine' Blk.set7_0 ?_ ?hb; case hb => (first | omega | (simp; done) | (simp; omega))) | (with_reducible refine' Blk.set7_1 ?_ ?hb; case hb => (first | omega | (simp; done) | (simp; omega))) | (with_reducible refine' Blk.set7_2 ?_ ?hb; case hb => (first | omega | (simp; done) | (simp; omega))) | (with_reducible refine' Blk.set7_3 ?_ ?hb; case hb => (first | omega | (simp; done) | (simp; omega))) | (with_reducible refine' Blk.set7_4 ?_ ?hb; case hb => (first | omega | (simp; done) | (simp; omega))) | (with_reducible refine' Blk.set7_5 ?_ ?hb; case hb => (first | omega | (simp; done) | (simp; omega))) | (with_reducible refine' Blk.set7_6 ?_ ?hb; case hb => (first | omega | (simp; done) | (simp; omega))) | (with_reducible refine Blk.far ?_ ?hb _; case hb => (first | omega | (simp; done) | (simp; omega))) | fail))
                have ZW : Blk (wb.setCell ⟨gr, i * 3, none⟩ (.int .i64 x)) w.heap.size 25 #[.int .i64 0, .int .i64 0, .int .i64 0, .slice none 0 0] := by (repeat' (first | (with_reducible exact Zb) | (with_reducible refine Blk.drewN ?_ _) | (with_reducible refine Blk.drew ?_) | (with_reducible refine Blk.new1 ?hb; case hb => (first | omega | (simp; done) | (simp; omega))) | (with_reducible refine Blk.alloc ?_ _) | (with_reducible refine' Blk.set2_0 ?_ ?hb; case hb => (first | omega | (simp; done) | (simp; omega))) | (with_reducible refine' Blk.set2_1 ?_ ?hb; case hb => (first | omega | (simp; done) | (simp; omega))) | (with_reducible refine' Blk.set3_0 ?_ ?hb; case hb => (first | omega | (simp; done) | (simp; omega))) | (with_reducible refine' Blk.set3_1 ?_ ?hb; case hb => (first | omega | (simp; done) | (simp; omega))) | (with_reducible refine' Blk.set3_2 ?_ ?hb; case hb => (first | omega | (simp; done) | (simp; omega))) | (with_reducible refine' Blk.set4_0 ?_ ?hb; case hb => (first | omega | (simp; done) | (simp; omega))) | (with_reducible refine' Blk.set4_1 ?_ ?hb; case hb => (first | omega | (simp; done) | (simp; omega))) | (with_reducible refine' Blk.set4_2 ?_ ?hb; case hb => (first | omega | (simp; done) | (simp; omega))) | (with_reducible refine' Blk.set4_3 ?_ ?hb; case hb => (first | omega | (simp; done) | (simp; omega))) | (with_reducible refine' Blk.set7_0 ?_ ?hb; case hb => (first | omega | (simp; done) | (simp; omega))) | (with_reducible refine' Blk.set7_1 ?_ ?hb; case hb => (first | omega | (simp; done) | (simp; omega))) | (with_reducible refine' Blk.set7_2 ?_ ?hb; case hb => (first | omega | (simp; done) | (simp; omega))) | (with_reducible refine' Blk.set7_3 ?_ ?hb; case hb => (first | omega | (simp; done) | (simp; omega))) | (with_reducible refine' Blk.set7_4 ?_ ?hb; case hb => (first | omega | (simp; done) | (simp; omega))) | (with_reducible refine' Blk.set7_5 ?_ ?hb; case hb => (first | omega | (simp; done) | (simp; omega))) | (with_reducible refine' Blk.set7_6 ?_ ?hb; case hb => (first | omega | (simp; done) | (simp; omega))) | (with_reducible refine Blk.far ?_ ?hb _; case hb => (first | omega | (simp; done) | (simp; omega))) | fail))
                obtain ⟨A9, c9, he9, q1, q2, q3⟩ := (show OG wb (w1.heap.size + 1) (.slice (some ⟨gr, 0, none⟩) m c2) xs by (repeat' (first | (with_reducible exact OHb.out) | with_reducible refine OG.alloc ?_ _ | with_reducible refine OG.drew ?_ | with_reducible refine OG.drewN ?_ _ | with_reducible refine OG.old ?_ ?_ _ | omega | (simp; done) | (simp; omega)))).formN HM.out
                cases he9
                have GW := Lib.hid ((q3.put him x).more (B' := (wb.setCell ⟨gr, i * 3, none⟩ (.int .i64 x)).heap.size) (by simp [World.setCell]))
                have BW := Lib.hid (show Below w.heap.size w (wb.setCell ⟨gr, i * 3, none⟩ (.int .i64 x)) by (repeat' (first | with_reducible exact BHb.out | with_reducible exact Below.refl _ _ | with_reducible refine below_drew1 ?_ | with_reducible refine below_drewN ?_ _ | with_reducible refine Below.alloc ?_ ?_ _ | with_reducible refine Below.setCell ?_ ?_ _ | omega | (simp; done) | (simp; omega))))
                clear q3 hHeld ob0 obf Qb Zb Qa Za hRa hRb hga hgb
                try clear l4
                try clear l5
                try clear l6
                try clear e3
                generalize hW : (wb.setCell ⟨gr, i * 3, none⟩ (.int .i64 x)) = W at *
                obtain ⟨⟨d0, d1, d2, d3⟩, g0, g1, g2, g3⟩ := ZW.get4
                obtain ⟨⟨r0, r1, r2, r3⟩, s0, s1, s2, s3⟩ := QW.get4
                have zl := ZW.lt
                have ql := QW.lt
                clear hW QW ZW v0 v1 v2 v3 vf0 vf1 vf2 vf3
                go_wp2
                refine bodyPost_ret (v := .agg #[.int .i64 f, .int .i64 t, .int .i64 tag, .slice (some ⟨gr, 0, none⟩) m c2]) (by simp [results, Try.results27, go_sem, d0, d1, d2, d3]) rfl ?_
                exact ⟨f, t, tag, _, m, c2, _, rfl, hf0, hf1, ht0, ht1, htg0, htg1, hl, hn1, hn2, ChGood.set HGD.out (i := i) (by rw [HM.out]; exact him) hx0 hx1, Gaps.more (B := W.heap.size) (by (repeat' (first | (with_reducible exact GW.out) | (with_reducible refine Gaps.other ?_ ?_ _) | omega | (simp; done) | (simp; omega)))) (by simp [World.setCell]), by (repeat' (first | with_reducible exact BW.out | with_reducible exact Below.refl _ _ | with_reducible refine below_drew1 ?_ | with_reducible refine below_drewN ?_ _ | with_reducible refine Below.alloc ?_ ?_ _ | with_reducible refine Below.setCell ?_ ?_ _ | omega | (simp; done) | (simp; omega)))⟩
              exact AllReadyH.nil
            exact AllReadyH.nil
          exact AllReadyH.nil
        refine AllReadyH.cons (o := _) rfl (fun K hK => ?_) ?_
        · go_simp
          with_reducible refine (c_pick g (200 + 1 + 1) 3 _ (by (repeat' (first | with_reducible exact hRa | with_reducible refine Rd.mono hRa ?_ | with_reducible refine Rd.setCell ?_ ?_ _ | with_reducible refine Rd.alloc ?_ _ | with_reducible refine Rd.drewN ?_ _ | with_reducible refine Rd.drew ?_ | omega | (simp; done) | (simp; omega)))) (by omega) (by omega)).mono ?_
          rintro e wb ⟨u, rfl, hu0, hu1, hRb, hgb⟩
          have Qb : Blk wb w2.heap.size 25 #[.int .i64 f, .int .i64 t, .int .i64 tag, .slice (some ⟨gr, 0, none⟩) m c2] := Blk.grown (by (repeat' (first | (with_reducible exact Qa) | (with_reducible refine Blk.drewN ?_ _) | (with_reducible refine Blk.drew ?_) | (with_reducible refine Blk.new1 ?hb; case hb => (first | omega | (simp; done) | (simp; omega))) | (with_reducible refine Blk.alloc ?_ _) | (with_reducible refine' Blk.set2_0 ?_ ?hb; case hb => (first | omega | (simp; done) | (simp; omega))) | (with_reducible refine' Blk.set2_1 ?_ ?hb; case hb => (first | omega | (simp; done) | (simp; omega))) | (with_reducible refine' Blk.set3_0 ?_ ?hb; case hb => (first | omega | (simp; done) | (simp; omega))) | (with_reducible refine' Blk.set3_1 ?_ ?hb; case hb => (first | omega | (simp; done) | (simp; omega))) | (with_reducible refine' Blk.set3_2 ?_ ?hb; case hb => (first | omega | (simp; done) | (simp; omega))) | (with_reducible refine' Blk.set4_0 ?_ ?hb; case hb => (first | omega | (simp; done) | (simp; omega))) | (with_reducible refine' Blk.set4_1 ?_ ?hb; case hb => (first | omega | (simp; done) | (simp; omega))) | (with_reducible refine' Blk.set4_2 ?_ ?hb; case hb => (first | omega | (simp; done) | (simp; omega))) | (with_reducible refine' Blk.set4_3 ?_ ?hb; case hb => (first | omega | (simp; done) | (simp; omega))) | (with_reducible refine' Blk.set7_0 ?_ ?hb; case hb => (first | omega | (simp; done) | (simp; omega))) | (with_reducible refine' Blk.set7_1 ?_ ?hb; case hb => (first | omega | (simp; done) | (simp; omega))) | (with_reducible refine' Blk.set7_2 ?_ ?hb; case hb => (first | omega | (simp; done) | (simp; omega))) | (with_reducible refine' Blk.set7_3 ?_ ?hb; case hb => (first | omega | (simp; done) | (simp; omega))) | (with_reducible refine' Blk.set7_4 ?_ ?hb; case hb => (first | omega | (simp; done) | (simp; omega))) | (with_reducible refine' Blk.set7_5 ?_ ?hb; case hb => (first | omega | (simp; done) | (simp; omega))) | (with_reducible refine' Blk.set7_6 ?_ ?hb; case hb => (first | omega | (simp; done) | (simp; omega))) | (with_reducible refine Blk.far ?_ ?hb _; case hb => (first | omega | (simp; done) | (simp; omega))) | fail))) hgb (by omega)
          have Ob : OG wb (w1.heap.size + 1) (.slice (some ⟨gr, 0, none⟩) m c2) xs := OG.grown (by (repeat' (first | (with_reducible exact OHa.out) | with_reducible refine OG.alloc ?_ _ | with_reducible refine OG.drew ?_ | with_reducible refine OG.drewN ?_ _ | with_reducible refine OG.old ?_ ?_ _ | omega | (simp; done) | (simp; omega)))) hgb (by omega)
          have Zb : Blk wb w.heap.size 25 #[.int .i64 0, .int .i64 0, .int .i64 0, .slice none 0 0] := Blk.grown (by (repeat' (first | (with_reducible exact Za) | (with_reducible refine Blk.drewN ?_ _) | (with_reducible refine Blk.drew ?_) | (with_reducible refine Blk.new1 ?hb; case hb => (first | omega | (simp; done) | (simp; omega))) | (with_reducible refine Blk.alloc ?_ _) | (with_reducible refine' Blk.set2_0 ?_ ?hb; case hb => (first | omega | (simp; done) | (simp; omega))) | (with_reducible refine' Blk.set2_1 ?_ ?hb; case hb => (first | omega | (simp; done) | (simp; omega))) | (with_reducible refine' Blk.set3_0 ?_ ?hb; case hb => (first | omega | (simp; done) | (simp; omega))) | (with_reducible refine' Blk.set3_1 ?_ ?hb; case hb => (first | omega | (simp; done) | (simp; omega))) | (with_reducible refine' Blk.set3_2 ?_ ?hb; case hb => (first | omega | (simp; done) | (simp; omega))) | (with_reducible refine' Blk.set4_0 ?_ ?hb; case hb => (first | omega | (simp; done) | (simp; omega))) | (with_reducible refine' Blk.set4_1 ?_ ?hb; case hb => (first | omega | (simp; done) | (simp; omega))) | (with_reducible refine' Blk.set4_2 ?_ ?hb; case hb => (first | omega | (simp; done) | (simp; omega))) | (with_reducible refine' Blk.set4_3 ?_ ?hb; case hb => (first | omega | (simp; done) | (simp; omega))) | (with_reducible refine' Blk.set7_0 ?_ ?hb; case hb => (first | omega | (simp; done) | (simp; omega))) | (with_reducible refine' Blk.set7_1 ?_ ?hb; case hb => (first | omega | (simp; done) | (simp; omega))) | (with_reducible refine' Blk.set7_2 ?_ ?hb; case hb => (first | omega | (simp; done) | (simp; omega))) | (with_reducible refine' Blk.set7_3 ?_ ?hb; case hb => (first | omega | (simp; done) | (simp; omega))) | (with_reducible refine' Blk.set7_4 ?_ ?hb; case hb => (first | omega | (simp; done) | (simp; omega))) | (with_reducible refine' Blk.set7_5 ?_ ?hb; case hb => (first | omega | (simp; done) | (simp; omega))) | (with_reducible refine' Blk.set7_6 ?_ ?hb; case hb => (first | omega | (simp; done) | (simp; omega))) | (with_reducible refine Blk.far ?_ ?hb _; case hb => (first | omega | (simp; done) | (simp; omega))) | fail))) hgb (by omega)
          have Bb : Below w.heap.size w wb := below_only (by (repeat' (first | with_reducible exact BHa.out | with_reducible exact Below.refl _ _ | with_reducible refine below_drew1 ?_ | with_reducible refine below_drewN ?_ _ | with_reducible refine Below.alloc ?_ ?_ _ | with_reducible refine Below.setCell ?_ ?_ _ | omega | (simp; done) | (simp; omega)))) hgb (by have := BHa.out.size; (first | omega | (simp; done) | (simp; omega))) (by omega)
          have zqb := Qb.lt
          have BHb := Lib.hid Bb
          have OHb := Lib.hid Ob
          clear Ob Bb
          have hii : (i : Int) < (m : Int) := by omega
          have hii0 : (0 : Int) ≤ (i : Int) := by omega
          have him : i < m := by omega
          have hu3 : u < 3 := by omega
          obtain ⟨x, hx, hx0, hx1⟩ := lit_at [1, 2, 14] 1 14 (by decide) u hu0 (by show u < 3; omega)
          obtain ⟨ob0, obf, hgo2, hgo3⟩ := OHb.out.cell0 HM.out i him
          have l6 : (wb.alloc (.cells #[.int .i64 1, .int .i64 2, .int .i64 14] 3)).cell? ⟨wb.heap.size, u.toNat, none⟩ = some (.int .i64 x) := ((Blk.new wb _ _).cell u.toNat).trans hx
          go_wp2_with fail
          refine hK.out _ _ ?_ (fun hHeld => ?_)
          · (repeat' (first | (with_reducible exact QV.out) | (with_reducible assumption) | (with_reducible refine Blk.drewN ?_ _) | (with_reducible refine Blk.drew ?_) | (with_reducible refine Blk.alloc ?_ _) | (with_reducible refine Blk.far ?_ ?_ _) | omega | (simp; done) | (simp; omega)))
          clear hK K
          try simp only [Act.put, List.getElem_toArray, List.getElem_cons_zero, List.getElem_cons_succ, List.setIfInBounds_toArray, List.set_cons_zero, List.set_cons_succ]
          refine wpAnyH_ready (rs := [7]) (by kernel_rfl) (by simp) ?_
          refine AllReadyH.cons (o := _) rfl (fun K hK => ?_) ?_
          · go_simp
            refine hK.out _ _ ?_ (fun hHeld => ?_)
            · (repeat' (first | (with_reducible exact QV.out) | (with_reducible assumption) | (with_reducible refine Blk.drewN ?_ _) | (with_reducible refine Blk.drew ?_) | (with_reducible refine Blk.alloc ?_ _) | (with_reducible refine Blk.far ?_ ?_ _) | omega | (simp; done) | (simp; omega)))
            clear hK K
            try simp only [Act.put, List.getElem_toArray, List.getElem_cons_zero, List.getElem_cons_succ, List.setIfInBounds_toArray, List.set_cons_zero, List.set_cons_succ]
            refine' wpAnyH_take (i := 10) (v := _) rfl (by kernel_rfl) (by kernel_rfl) (by kernel_rfl) (fun _ _ _ h => h) (Or.inl ⟨by rfl, ?hyr11⟩) (by assumption) ?restr11
            case hyr11 => (intro w hSw; (try dsimp only at hSw); go_simp; try with_reducible rfl)
            try simp only [Act.put, List.getElem_toArray, List.getElem_cons_zero, List.getElem_cons_succ, List.setIfInBounds_toArray, List.set_cons_zero, List.set_cons_succ]
            refine wpAnyH_ready (rs := [11]) (by kernel_rfl) (by simp) ?_
            refine AllReadyH.cons (o := _) rfl (fun K hK => ?_) ?_
            · go_simp
              refine hK.out _ _ ?_ (fun hHeld => ?_)
              · (repeat' (first | (with_reducible exact QV.out) | (with_reducible assumption) | (with_reducible refine Blk.drewN ?_ _) | (with_reducible refine Blk.drew ?_) | (with_reducible refine Blk.alloc ?_ _) | (with_reducible refine Blk.far ?_ ?_ _) | omega | (simp; done) | (simp; omega)))
              clear hK K
              try simp only [Act.put, List.getElem_toArray, List.getElem_cons_zero, List.getElem_cons_succ, List.setIfInBounds_toArray, List.set_cons_zero, List.set_cons_succ]
              refine' wpAnyH_take (i := 12) (v := _) rfl (by kernel_rfl) (by kernel_rfl) (by kernel_rfl) (fun _ _ _ h => h) (Or.inl ⟨by rfl, ?hyr12⟩) (by assumption) ?restr12
              case hyr12 => (intro w hSw; (try dsimp only at hSw); go_simp; try with_reducible rfl)
              try simp only [Act.put, List.getElem_toArray, List.getElem_cons_zero, List.getElem_cons_succ, List.setIfInBounds_toArray, List.set_cons_zero, List.set_cons_succ]
              refine' wpAnyH_take (i := 13) (v := _) rfl (by kernel_rfl) (by kernel_rfl) (by kernel_rfl) (fun _ _ _ h => h) (Or.inl ⟨by rfl, ?hyr13⟩) (by assumption) ?restr13
              case hyr13 => (intro w hSw; (try dsimp only at hSw); go_simp; try with_reducible rfl)
              try simp only [Act.put, List.getElem_toArray, List.getElem_cons_zero, List.getElem_cons_succ, List.setIfInBounds_toArray, List.set_cons_zero, List.set_cons_succ]
              refine wpAnyH_ready (rs := [14]) (by kernel_rfl) (by simp) ?_
              refine AllReadyH.cons (o := _) rfl (fun K hK => ?_) ?_
              · go_simp
                refine hK.out _ _ ?_ (fun hHeld => ?_)
                · (repeat' (first | (with_reducible exact QV.out) | (with_reducible assumption) | (with_reducible refine Blk.drewN ?_ _) | (with_reducible refine Blk.drew ?_) | (with_reducible refine Blk.alloc ?_ _) | (with_reducible refine Blk.far ?_ ?_ _) | omega | (simp; done) | (simp; omega)))
                clear hK K
                try simp only [Act.put, List.getElem_toArray, List.getElem_cons_zero, List.getElem_cons_succ, List.setIfInBounds_toArray, List.set_cons_zero, List.set_cons_succ]
                refine wpAnyH_done (by kernel_rfl) ?_ _
                refine NoPanic.normal ?_
                have QW : Blk ((wb.setCell ⟨gr, i * 3, none⟩ (.int .i64 x)).alloc (.cells #[.int .i64 1, .int .i64 2, .int .i64 14] 3)) w2.heap.size 25 #[.int .i64 f, .int .i64 t, .int .i64 tag, .slice (some ⟨gr, 0, none⟩) m c2] := by (repeat' (first | (with_reducible exact Qb) | (with_reducible refine Blk.drewN ?_ _) | (with_reducible refine Blk.drew ?_) | (with_reducible refine Blk.new1 ?hb; case hb => (first | omega | (simp; done) | (simp; omega))) | (with_reducible refine Blk.alloc ?_ _) | (with_reducible refine' Blk.set2_0 ?_ ?hb; case hb => (first | omega | (simp; done) | (simp; omega))) | (with_reducible refine' Blk.set2_1 ?_ ?hb; case hb => (first | omega | (simp; done) | (simp; omega))) | (with_reducible refine' Blk.set3_0 ?_ ?hb; case hb => (first | omega | (simp; done) | (simp; omega))) | (with_reducible refine' Blk.set3_1 ?_ ?hb; case hb => (first | omega | (simp; done) | (simp; omega))) | (with_reducible refine' Blk.set3_2 ?_ ?hb; case hb => (first | omega | (simp; done) | (simp; omega))) | (with_reducible refine' Blk.set4_0 ?_ ?hb; case hb => (first | omega | (simp; done) | (simp; omega))) | (with_reducible refine' Blk.set4_1 ?_ ?hb; case hb => (first | omega | (simp; done) | (simp; omega))) | (with_reducible refine' Blk.set4_2 ?_ ?hb; case hb => (first | omega | (simp; done) | (simp; omega))) | (with_reducible refine' Blk.set4_3 ?_ ?hb; case hb => (first | omega | (simp; done) | (simp; omega))) | (with_reducible refine' Blk.set7_0 ?_ ?hb; case hb => (first | omega | (simp; done) | (simp; omega))) | (with_reducible refine' Blk.set7_1 ?_ ?hb; case hb => (first | omega | (simp; done) | (simp; omega))) | (with_reducible refine' Blk.set7_2 ?_ ?hb; case hb => (first | omega | (simp; done) | (simp; omega))) | (with_reducible refine' Blk.set7_3 ?_ ?hb; case hb => (first | omega | (simp; done) | (simp; omega))) | (with_reducible refine' Blk.set7_4 ?_ ?hb; case hb => (first | omega | (simp; done) | (simp; omega))) | (with_reducible refine' Blk.set7_5 ?_ ?hb; case hb => (first | omega | (simp; done) | (simp; omega))) | (with_reducible refine' Blk.set7_6 ?_ ?hb; case hb => (first | omega | (simp; done) | (simp; omega))) | (with_reducible refine Blk.far ?_ ?hb _; case hb => (first | omega | (simp; done) | (simp; omega))) | fail))
                have ZW : Blk ((wb.setCell ⟨gr, i * 3, none⟩ (.int .i64 x)).alloc (.cells #[.int .i64 1, .int .i64 2, .int .i64 14] 3)) w.heap.size 25 #[.int .i64 0, .int .i64 0, .int .i64 0, .slice none 0 0] := by (repeat' (first | (with_reducible exact Zb) | (with_reducible refine Blk.drewN ?_ _) | (with_reducible refine Blk.drew ?_) | (with_reducible refine Blk.new1 ?hb; case hb => (first | omega | (simp; done) | (simp; omega))) | (with_reducible refine Blk.alloc ?_ _) | (with_reducible refine' Blk.set2_0 ?_ ?hb; case hb => (first | omega | (simp; done) | (simp; omega))) | (with_reducible refine' Blk.set2_1 ?_ ?hb; case hb => (first | omega | (simp; done) | (simp; omega))) | (with_reducible refine' Blk.set3_0 ?_ ?hb; case hb => (first | omega | (simp; done) | (simp; omega))) | (with_reducible refine' Blk.set3_1 ?_ ?hb; case hb => (first | omega | (simp; done) | (simp; omega))) | (with_reducible refine' Blk.set3_2 ?_ ?hb; case hb => (first | omega | (simp; done) | (simp; omega))) | (with_reducible refine' Blk.set4_0 ?_ ?hb; case hb => (first | omega | (simp; done) | (simp; omega))) | (with_reducible refine' Blk.set4_1 ?_ ?hb; case hb => (first | omega | (simp; done) | (simp; omega))) | (with_reducible refine' Blk.set4_2 ?_ ?hb; case hb => (first | omega | (simp; done) | (simp; omega))) | (with_reducible refine' Blk.set4_3 ?_ ?hb; case hb => (first | omega | (simp; done) | (simp; omega))) | (with_reducible refine' Blk.set7_0 ?_ ?hb; case hb => (first | omega | (simp; done) | (simp; omega))) | (with_reducible refine' Blk.set7_1 ?_ ?hb; case hb => (first | omega | (simp; done) | (simp; omega))) | (with_reducible refine' Blk.set7_2 ?_ ?hb; case hb => (first | omega | (simp; done) | (simp; omega))) | (with_reducible refine' Blk.set7_3 ?_ ?hb; case hb => (first | omega | (simp; done) | (simp; omega))) | (with_reducible refine' Blk.set7_4 ?_ ?hb; case hb => (first | omega | (simp; done) | (simp; omega))) | (with_reducible refine' Blk.set7_5 ?_ ?hb; case hb => (first | omega | (simp; done) | (simp; omega))) | (with_reducible refine' Blk.set7_6 ?_ ?hb; case hb => (first | omega | (simp; done) | (simp; omega))) | (with_reducible refine Blk.far ?_ ?hb _; case hb => (first | omega | (simp; done) | (simp; omega))) | fail))
                obtain ⟨A9, c9, he9, q1, q2, q3⟩ := (show OG wb (w1.heap.size + 1) (.slice (some ⟨gr, 0, none⟩) m c2) xs by (repeat' (first | (with_reducible exact OHb.out) | with_reducible refine OG.alloc ?_ _ | with_reducible refine OG.drew ?_ | with_reducible refine OG.drewN ?_ _ | with_reducible refine OG.old ?_ ?_ _ | omega | (simp; done) | (simp; omega)))).formN HM.out
                cases he9
                have GW := Lib.hid (((q3.put him x).alloc (by simp [World.setCell]) (.cells #[.int .i64 1, .int .i64 2, .int .i64 14] 3)).more (B' := ((wb.setCell ⟨gr, i * 3, none⟩ (.int .i64 x)).alloc (.cells #[.int .i64 1, .int .i64 2, .int .i64 14] 3)).heap.size) (by simp [World.setCell]))
                have BW := Lib.hid (show Below w.heap.size w ((wb.setCell ⟨gr, i * 3, none⟩ (.int .i64 x)).alloc (.cells #[.int .i64 1, .int .i64 2, .int .i64 14] 3)) by (repeat' (first | with_reducible exact BHb.out | with_reducible exact Below.refl _ _ | with_reducible refine below_drew1 ?_ | with_reducible refine below_drewN ?_ _ | with_reducible refine Below.alloc ?_ ?_ _ | with_reducible refine Below.setCell ?_ ?_ _ | omega | (simp; done) | (simp; omega))))
                clear q3 hHeld ob0 obf Qb Zb Qa Za hRa hRb hga hgb
                try clear l4
                try clear l5
                try clear l6
                try clear e3
                generalize hW : ((wb.setCell ⟨gr, i * 3, none⟩ (.int .i64 x)).alloc (.cells #[.int .i64 1, .int .i64 2, .int .i64 14] 3)) = W at *
                obtain ⟨⟨d0, d1, d2, d3⟩, g0, g1, g2, g3⟩ := ZW.get4
                obtain ⟨⟨r0, r1, r2, r3⟩, s0, s1, s2, s3⟩ := QW.get4
                have zl := ZW.lt
                have ql := QW.lt
                clear hW QW ZW v0 v1 v2 v3 vf0 vf1 vf2 vf3
                go_wp2
                refine bodyPost_ret (v := .agg #[.int .i64 f, .int .i64 t, .int .i64 tag, .slice (some ⟨gr, 0, none⟩) m c2]) (by simp [results, Try.results27, go_sem, d0, d1, d2, d3]) rfl ?_
                exact ⟨f, t, tag, _, m, c2, _, rfl, hf0, hf1, ht0, ht1, htg0, htg1, hl, hn1, hn2, ChGood.set HGD.out (i := i) (by rw [HM.out]; exact him) hx0 hx1, Gaps.more (B := W.heap.size) (by (repeat' (first | (with_reducible exact GW.out) | (with_reducible refine Gaps.other ?_ ?_ _) | omega | (simp; done) | (simp; omega)))) (by simp [World.setCell]), by (repeat' (first | with_reducible exact BW.out | with_reducible exact Below.refl _ _ | with_reducible refine below_drew1 ?_ | with_reducible refine below_drewN ?_ _ | with_reducible refine Below.alloc ?_ ?_ _ | with_reducible refine Below.setCell ?_ ?_ _ | omega | (simp; done) | (simp; omega)))⟩
              exact AllReadyH.nil
            exact AllReadyH.nil
          exact AllReadyH.nil
        exact AllReadyH.nil
      refine AllReadyH.cons (o := _) rfl (fun K hK => ?_) ?_
      · go_simp
        refine hK.out _ _ ?_ (fun hHeld => ?_)
        · (repeat' (first | (with_reducible exact QV.out) | (with_reducible assumption) | (with_reducible refine Blk.drewN ?_ _) | (with_reducible refine Blk.drew ?_) | (with_reducible refine Blk.alloc ?_ _) | (with_reducible refine Blk.far ?_ ?_ _) | omega | (simp; done) | (simp; omega)))
        clear hK K
        try simp only [Act.put, List.getElem_toArray, List.getElem_cons_zero, List.getElem_cons_succ, List.setIfInBounds_toArray, List.set_cons_zero, List.set_cons_succ]
        refine wpAnyH_ready (rs := [6]) (by kernel_rfl) (by simp) ?_
        refine AllReadyH.cons (o := _) rfl (fun K hK => ?_) ?_
        · go_simp
          with_reducible refine (c_pick g (200 + 1) m _ (by (repeat' (first | with_reducible exact RV.out | with_reducible refine Rd.mono RV.out ?_ | with_reducible refine Rd.setCell ?_ ?_ _ | with_reducible refine Rd.alloc ?_ _ | with_reducible refine Rd.drewN ?_ _ | with_reducible refine Rd.drew ?_ | omega | (simp; done) | (simp; omega)))) (by omega) (by omega)).mono ?_
          rintro e wa ⟨p, rfl, hp0, hp1, hRa, hga⟩
          have Qa : Blk wa w2.heap.size 25 #[.int .i64 f, .int .i64 t, .int .i64 tag, .slice (some ⟨gr, 0, none⟩) m c2] := Blk.grown (by (repeat' (first | (with_reducible exact QV.out) | (with_reducible refine Blk.drewN ?_ _) | (with_reducible refine Blk.drew ?_) | (with_reducible refine Blk.new1 ?hb; case hb => (first | omega | (simp; done) | (simp; omega))) | (with_reducible refine Blk.alloc ?_ _) | (with_reducible refine' Blk.set2_0 ?_ ?hb; case hb => (first | omega | (simp; done) | (simp; omega))) | (with_reducible refine' Blk.set2_1 ?_ ?hb; case hb => (first | omega | (simp; done) | (simp; omega))) | (with_reducible refine' Blk.set3_0 ?_ ?hb; case hb => (first | omega | (simp; done) | (simp; omega))) | (with_reducible refine' Blk.set3_1 ?_ ?hb; case hb => (first | omega | (simp; done) | (simp; omega))) | (with_reducible refine' Blk.set3_2 ?_ ?hb; case hb => (first | omega | (simp; done) | (simp; omega))) | (with_reducible refine' Blk.set4_0 ?_ ?hb; case hb => (first | omega | (simp; done) | (simp; omega))) | (with_reducible refine' Blk.set4_1 ?_ ?hb; case hb => (first | omega | (simp; done) | (simp; omega))) | (with_reducible refine' Blk.set4_2 ?_ ?hb; case hb => (first | omega | (simp; done) | (simp; omega))) | (with_reducible refine' Blk.set4_3 ?_ ?hb; case hb => (first | omega | (simp; done) | (simp; omega))) | (with_reducible refine' Blk.set7_0 ?_ ?hb; case hb => (first | omega | (simp; done) | (simp; omega))) | (with_reducible refine' Blk.set7_1 ?_ ?hb; case hb => (first | omega | (simp; done) | (simp; omega))) | (with_reducible refine' Blk.set7_2 ?_ ?hb; case hb => (first | omega | (simp; done) | (simp; omega))) | (with_reducible refine' Blk.set7_3 ?_ ?hb; case hb => (first | omega | (simp; done) | (simp; omega))) | (with_reducible refine' Blk.set7_4 ?_ ?hb; case hb => (first | omega | (simp; done) | (simp; omega))) | (with_reducible refine' Blk.set7_5 ?_ ?hb; case hb => (first | omega | (simp; done) | (simp; omega))) | (with_reducible refine' Blk.set7_6 ?_ ?hb; case hb => (first | omega | (simp; done) | (simp; omega))) | (with_reducible refine Blk.far ?_ ?hb _; case hb => (first | omega | (simp; done) | (simp; omega))) | fail))) hga (by omega)
          have Oa : OG wa (w1.heap.size + 1) (.slice (some ⟨gr, 0, none⟩) m c2) xs := OG.grown (by (repeat' (first | (with_reducible exact OV.out) | with_reducible refine OG.alloc ?_ _ | with_reducible refine OG.drew ?_ | with_reducible refine OG.drewN ?_ _ | with_reducible refine OG.old ?_ ?_ _ | omega | (simp; done) | (simp; omega)))) hga (by omega)
          have Za : Blk wa w.heap.size 25 #[.int .i64 0, .int .i64 0, .int .i64 0, .slice none 0 0] := Blk.grown (by (repeat' (first | (with_reducible exact ZV.out) | (with_reducible refine Blk.drewN ?_ _) | (with_reducible refine Blk.drew ?_) | (with_reducible refine Blk.new1 ?hb; case hb => (first | omega | (simp; done) | (simp; omega))) | (with_reducible refine Blk.alloc ?_ _) | (with_reducible refine' Blk.set2_0 ?_ ?hb; case hb => (first | omega | (simp; done) | (simp; omega))) | (with_reducible refine' Blk.set2_1 ?_ ?hb; case hb => (first | omega | (simp; done) | (simp; omega))) | (with_reducible refine' Blk.set3_0 ?_ ?hb; case hb => (first | omega | (simp; done) | (simp; omega))) | (with_reducible refine' Blk.set3_1 ?_ ?hb; case hb => (first | omega | (simp; done) | (simp; omega))) | (with_reducible refine' Blk.set3_2 ?_ ?hb; case hb => (first | omega | (simp; done) | (simp; omega))) | (with_reducible refine' Blk.set4_0 ?_ ?hb; case hb => (first | omega | (simp; done) | (simp; omega))) | (with_reducible refine' Blk.set4_1 ?_ ?hb; case hb => (first | omega | (simp; done) | (simp; omega))) | (with_reducible refine' Blk.set4_2 ?_ ?hb; case hb => (first | omega | (simp; done) | (simp; omega))) | (with_reducible refine' Blk.set4_3 ?_ ?hb; case hb => (first | omega | (simp; done) | (simp; omega))) | (with_reducible refine' Blk.set7_0 ?_ ?hb; case hb => (first | omega | (simp; done) | (simp; omega))) | (with_reducible refine' Blk.set7_1 ?_ ?hb; case hb => (first | omega | (simp; done) | (simp; omega))) | (with_reducible refine' Blk.set7_2 ?_ ?hb; case hb => (first | omega | (simp; done) | (simp; omega))) | (with_reducible refine' Blk.set7_3 ?_ ?hb; case hb => (first | omega | (simp; done) | (simp; omega))) | (with_reducible refine' Blk.set7_4 ?_ ?hb; case hb => (first | omega | (simp; done) | (simp; omega))) | (with_reducible refine' Blk.set7_5 ?_ ?hb; case hb => (first | omega | (simp; done) | (simp; omega))) | (with_reducible refine' Blk.set7_6 ?_ ?hb; case hb => (first | omega | (simp; done) | (simp; omega))) | (with_reducible refine Blk.far ?_ ?hb _; case hb => (first | omega | (simp; done) | (simp; omega))) | fail))) hga (by omega)
          have Ba : Below w.heap.size w wa := below_only (by (repeat' (first | with_reducible exact BV.out | with_reducible exact Below.refl _ _ | with_reducible refine below_drew1 ?_ | with_reducible refine below_drewN ?_ _ | with_reducible refine Below.alloc ?_ ?_ _ | with_reducible refine Below.setCell ?_ ?_ _ | omega | (simp; done) | (simp; omega)))) hga (by have := BV.out.size; (first | omega | (simp; done) | (simp; omega))) (by omega)
          have zqa := Qa.lt
          have BHa := Lib.hid Ba
          have OHa := Lib.hid Oa
          clear Oa Ba
          obtain ⟨i, rfl⟩ := Int.eq_ofNat_of_zero_le hp0
          go_wp2_with fail
          refine hK.out _ _ ?_ (fun hHeld => ?_)
          · (repeat' (first | (with_reducible exact QV.out) | (with_reducible assumption) | (with_reducible refine Blk.drewN ?_ _) | (with_reducible refine Blk.drew ?_) | (with_reducible refine Blk.alloc ?_ _) | (with_reducible refine Blk.far ?_ ?_ _) | omega | (simp; done) | (simp; omega)))
          clear hK K
          try simp only [Act.put, List.getElem_toArray, List.getElem_cons_zero, List.getElem_cons_succ, List.setIfInBounds_toArray, List.set_cons_zero, List.set_cons_succ]
          refine wpAnyH_ready (rs := [9]) (by kernel_rfl) (by simp) ?_
          refine AllReadyH.cons (o := _) rfl (fun K hK => ?_) ?_
          · go_simp
            with_reducible refine (c_pick g (200 + 1 + 1) 3 _ (by (repeat' (first | with_reducible exact hRa | with_reducible refine Rd.mono hRa ?_ | with_reducible refine Rd.setCell ?_ ?_ _ | with_reducible refine Rd.alloc ?_ _ | with_reducible refine Rd.drewN ?_ _ | with_reducible refine Rd.drew ?_ | omega | (simp; done) | (simp; omega)))) (by omega) (by omega)).mono ?_
            rintro e wb ⟨u, rfl, hu0, hu1, hRb, hgb⟩
            have Qb : Blk wb w2.heap.size 25 #[.int .i64 f, .int .i64 t, .int .i64 tag, .slice (some ⟨gr, 0, none⟩) m c2] := Blk.grown (by (repeat' (first | (with_reducible exact Qa) | (with_reducible refine Blk.drewN ?_ _) | (with_reducible refine Blk.drew ?_) | (with_reducible refine Blk.new1 ?hb; case hb => (first | omega | (simp; done) | (simp; omega))) | (with_reducible refine Blk.alloc ?_ _) | (with_reducible refine' Blk.set2_0 ?_ ?hb; case hb => (first | omega | (simp; done) | (simp; omega))) | (with_reducible refine' Blk.set2_1 ?_ ?hb; case hb => (first | omega | (simp; done) | (simp; omega))) | (with_reducible refine' Blk.set3_0 ?_ ?hb; case hb => (first | omega | (simp; done) | (simp; omega))) | (with_reducible refine' Blk.set3_1 ?_ ?hb; case hb => (first | omega | (simp; done) | (simp; omega))) | (with_reducible refine' Blk.set3_2 ?_ ?hb; case hb => (first | omega | (simp; done) | (simp; omega))) | (with_reducible refine' Blk.set4_0 ?_ ?hb; case hb => (first | omega | (simp; done) | (simp; omega))) | (with_reducible refine' Blk.set4_1 ?_ ?hb; case hb => (first | omega | (simp; done) | (simp; omega))) | (with_reducible refine' Blk.set4_2 ?_ ?hb; case hb => (first | omega | (simp; done) | (simp; omega))) | (with_reducible refine' Blk.set4_3 ?_ ?hb; case hb => (first | omega | (simp; done) | (simp; omega))) | (with_reducible refine' Blk.set7_0 ?_ ?hb; case hb => (first | omega | (simp; done) | (simp; omega))) | (with_reducible refine' Blk.set7_1 ?_ ?hb; case hb => (first | omega | (simp; done) | (simp; omega))) | (with_reducible refine' Blk.set7_2 ?_ ?hb; case hb => (first | omega | (simp; done) | (simp; omega))) | (with_reducible refine' Blk.set7_3 ?_ ?hb; case hb => (first | omega | (simp; done) | (simp; omega))) | (with_reducible refine' Blk.set7_4 ?_ ?hb; case hb => (first | omega | (simp; done) | (simp; omega))) | (with_reducible refine' Blk.set7_5 ?_ ?hb; case hb => (first | omega | (simp; done) | (simp; omega))) | (with_reducible refine' Blk.set7_6 ?_ ?hb; case hb => (first | omega | (simp; done) | (simp; omega))) | (with_reducible refine Blk.far ?_ ?hb _; case hb => (first | omega | (simp; done) | (simp; omega))) | fail))) hgb (by omega)
            have Ob : OG wb (w1.heap.size + 1) (.slice (some ⟨gr, 0, none⟩) m c2) xs := OG.grown (by (repeat' (first | (with_reducible exact OHa.out) | with_reducible refine OG.alloc ?_ _ | with_reducible refine OG.drew ?_ | with_reducible refine OG.drewN ?_ _ | with_reducible refine OG.old ?_ ?_ _ | omega | (simp; done) | (simp; omega)))) hgb (by omega)
            have Zb : Blk wb w.heap.size 25 #[.int .i64 0, .int .i64 0, .int .i64 0, .slice none 0 0] := Blk.grown (by (repeat' (first | (with_reducible exact Za) | (with_reducible refine Blk.drewN ?_ _) | (with_reducible refine Blk.drew ?_) | (with_reducible refine Blk.new1 ?hb; case hb => (first | omega | (simp; done) | (simp; omega))) | (with_reducible refine Blk.alloc ?_ _) | (with_reducible refine' Blk.set2_0 ?_ ?hb; case hb => (first | omega | (simp; done) | (simp; omega))) | (with_reducible refine' Blk.set2_1 ?_ ?hb; case hb => (first | omega | (simp; done) | (simp; omega))) | (with_reducible refine' Blk.set3_0 ?_ ?hb; case hb => (first | omega | (simp; done) | (simp; omega))) | (with_reducible refine' Blk.set3_1 ?_ ?hb; case hb => (first | omega | (simp; done) | (simp; omega))) | (with_reducible refine' Blk.set3_2 ?_ ?hb; case hb => (first | omega | (simp; done) | (simp; omega))) | (with_reducible refine' Blk.set4_0 ?_ ?hb; case hb => (first | omega | (simp; done) | (simp; omega))) | (with_reducible refine' Blk.set4_1 ?_ ?hb; case hb => (first | omega | (simp; done) | (simp; omega))) | (with_reducible refine' Blk.set4_2 ?_ ?hb; case hb => (first | omega | (simp; done) | (simp; omega))) | (with_reducible refine' Blk.set4_3 ?_ ?hb; case hb => (first | omega | (simp; done) | (simp; omega))) | (with_reducible refine' Blk.set7_0 ?_ ?hb; case hb => (first | omega | (simp; done) | (simp; omega))) | (with_reducible refine' Blk.set7_1 ?_ ?hb; case hb => (first | omega | (simp; done) | (simp; omega))) | (with_reducible refine' Blk.set7_2 ?_ ?hb; case hb => (first | omega | (simp; done) | (simp; omega))) | (with_reducible refine' Blk.set7_3 ?_ ?hb; case hb => (first | omega | (simp; done) | (simp; omega))) | (with_reducible refine' Blk.set7_4 ?_ ?hb; case hb => (first | omega | (simp; done) | (simp; omega))) | (with_reducible refine' Blk.set7_5 ?_ ?hb; case hb => (first | omega | (simp; done) | (simp; omega))) | (with_reducible refine' Blk.set7_6 ?_ ?hb; case hb => (first | omega | (simp; done) | (simp; omega))) | (with_reducible refine Blk.far ?_ ?hb _; case hb => (first | omega | (simp; done) | (simp; omega))) | fail))) hgb (by omega)
            have Bb : Below w.heap.size w wb := below_only (by (repeat' (first | with_reducible exact BHa.out | with_reducible exact Below.refl _ _ | with_reducible refine below_drew1 ?_ | with_reducible refine below_drewN ?_ _ | with_reducible refine Below.alloc ?_ ?_ _ | with_reducible refine Below.setCell ?_ ?_ _ | omega | (simp; done) | (simp; omega)))) hgb (by have := BHa.out.size; (first | omega | (simp; done) | (simp; omega))) (by omega)
            have zqb := Qb.lt
            have BHb := Lib.hid Bb
            have OHb := Lib.hid Ob
            clear Ob Bb
            have hii : (i : Int) < (m : Int) := by omega
            have hii0 : (0 : Int) ≤ (i : Int) := by omega
            have him : i < m := by omega
            have hu3 : u < 3 := by omega
            obtain ⟨x, hx, hx0, hx1⟩ := lit_at [1, 2, 14] 1 14 (by decide) u hu0 (by show u < 3; omega)
            obtain ⟨ob0, obf, hgo2, hgo3⟩ := OHb.out.cell0 HM.out i him
            have l4 : wb.cell? ⟨w4.heap.size, u.toNat, none⟩ = some (.int .i64 x) := ((Blk.grown (t := 3) (cs := #[.int .i64 1, .int .i64 2, .int .i64 14]) (Blk.grown (by (repeat' (first | (with_reducible refine Blk.drewN ?_ _) | (with_reducible refine Blk.drew ?_) | (with_reducible refine Blk.new1 ?hb; case hb => (first | omega | (simp; done) | (simp; omega))) | (with_reducible refine Blk.alloc ?_ _) | (with_reducible refine' Blk.set2_0 ?_ ?hb; case hb => (first | omega | (simp; done) | (simp; omega))) | (with_reducible refine' Blk.set2_1 ?_ ?hb; case hb => (first | omega | (simp; done) | (simp; omega))) | (with_reducible refine' Blk.set3_0 ?_ ?hb; case hb => (first | omega | (simp; done) | (simp; omega))) | (with_reducible refine' Blk.set3_1 ?_ ?hb; case hb => (first | omega | (simp; done) | (simp; omega))) | (with_reducible refine' Blk.set3_2 ?_ ?hb; case hb => (first | omega | (simp; done) | (simp; omega))) | (with_reducible refine' Blk.set4_0 ?_ ?hb; case hb => (first | omega | (simp; done) | (simp; omega))) | (with_reducible refine' Blk.set4_1 ?_ ?hb; case hb => (first | omega | (simp; done) | (simp; omega))) | (with_reducible refine' Blk.set4_2 ?_ ?hb; case hb => (first | omega | (simp; done) | (simp; omega))) | (with_reducible refine' Blk.set4_3 ?_ ?hb; case hb => (first | omega | (simp; done) | (simp; omega))) | (with_reducible refine' Blk.set7_0 ?_ ?hb; case hb => (first | omega | (simp; done) | (simp; omega))) | (with_reducible refine' Blk.set7_1 ?_ ?hb; case hb => (first | omega | (simp; done) | (simp; omega))) | (with_reducible refine' Blk.set7_2 ?_ ?hb; case hb => (first | omega | (simp; done) | (simp; omega))) | (with_reducible refine' Blk.set7_3 ?_ ?hb; case hb => (first | omega | (simp; done) | (simp; omega))) | (with_reducible refine' Blk.set7_4 ?_ ?hb; case hb => (first | omega | (simp; done) | (simp; omega))) | (with_reducible refine' Blk.set7_5 ?_ ?hb; case hb => (first | omega | (simp; done) | (simp; omega))) | (with_reducible refine' Blk.set7_6 ?_ ?hb; case hb => (first | omega | (simp; done) | (simp; omega))) | (with_reducible refine Blk.far ?_ ?hb _; case hb => (first | omega | (simp; done) | (simp; omega))) | fail))) hga (by omega)) hgb (by omega)).cell u.toNat).trans hx
            go_wp2_with fail
            refine hK.out _ _ ?_ (fun hHeld => ?_)
            · (repeat' (first | (with_reducible exact QV.out) | (with_reducible assumption) | (with_reducible refine Blk.drewN ?_ _) | (with_reducible refine Blk.drew ?_) | (with_reducible refine Blk.alloc ?_ _) | (with_reducible refine Blk.far ?_ ?_ _) | omega | (simp; done) | (simp; omega)))
            clear hK K
            try simp only [Act.put, List.getElem_toArray, List.getElem_cons_zero, List.getElem_cons_succ, List.setIfInBounds_toArray, List.set_cons_zero, List.set_cons_succ]
            refine' wpAnyH_take (i := 10) (v := _) rfl (by kernel_rfl) (by kernel_rfl) (by kernel_rfl) (fun _ _ _ h => h) (Or.inl ⟨by rfl, ?hyr14⟩) (by assumption) ?restr14
            case hyr14 => (intro w hSw; (try dsimp only at hSw); go_simp; try with_reducible rfl)
            try simp only [Act.put, List.getElem_toArray, List.getElem_cons_zero, List.getElem_cons_succ, List.setIfInBounds_toArray, List.set_cons_zero, List.set_cons_succ]
            refine wpAnyH_ready (rs := [11]) (by kernel_rfl) (by simp) ?_
            refine AllReadyH.cons (o := _) rfl (fun K hK => ?_) ?_
            · go_simp
              refine hK.out _ _ ?_ (fun hHeld => ?_)
              · (repeat' (first | (with_reducible exact QV.out) | (with_reducible assumption) | (with_reducible refine Blk.drewN ?_ _) | (with_reducible refine Blk.drew ?_) | (with_reducible refine Blk.alloc ?_ _) | (with_reducible refine Blk.far ?_ ?_ _) | omega | (simp; done) | (simp; omega)))
              clear hK K
              try simp only [Act.put, List.getElem_toArray, List.getElem_cons_zero, List.getElem_cons_succ, List.setIfInBounds_toArray, List.set_cons_zero, List.set_cons_succ]
              refine' wpAnyH_take (i := 12) (v := _) rfl (by kernel_rfl) (by kernel_rfl) (by kernel_rfl) (fun _ _ _ h => h) (Or.inl ⟨by rfl, ?hyr15⟩) (by assumption) ?restr15
              case hyr15 => (intro w hSw; (try dsimp only at hSw); go_simp; try with_reducible rfl)
              try simp only [Act.put, List.getElem_toArray, List.getElem_cons_zero, List.getElem_cons_succ, List.setIfInBounds_toArray, List.set_cons_zero, List.set_cons_succ]
              refine' wpAnyH_take (i := 13) (v := _) rfl (by kernel_rfl) (by kernel_rfl) (by kernel_rfl) (fun _ _ _ h => h) (Or.inl ⟨by rfl, ?hyr16⟩) (by assumption) ?restr16
              case hyr16 => (intro w hSw; (try dsimp only at hSw); go_simp; try with_reducible rfl)
              try simp only [Act.put, List.getElem_toArray, List.getElem_cons_zero, List.getElem_cons_succ, List.setIfInBounds_toArray, List.set_cons_zero, List.set_cons_succ]
              refine wpAnyH_ready (rs := [14]) (by kernel_rfl) (by simp) ?_
              refine AllReadyH.cons (o := _) rfl (fun K hK => ?_) ?_
              · go_simp
                refine hK.out _ _ ?_ (fun hHeld => ?_)
                · (repeat' (first | (with_reducible exact QV.out) | (with_reducible assumption) | (with_reducible refine Blk.drewN ?_ _) | (with_reducible refine Blk.drew ?_) | (with_reducible refine Blk.alloc ?_ _) | (with_reducible refine Blk.far ?_ ?_ _) | omega | (simp; done) | (simp; omega)))
                clear hK K
                try simp only [Act.put, List.getElem_toArray, List.getElem_cons_zero, List.getElem_cons_succ, List.setIfInBounds_toArray, List.set_cons_zero, List.set_cons_succ]
                refine wpAnyH_done (by kernel_rfl) ?_ _
                refine NoPanic.normal ?_
                have QW : Blk (wb.setCell ⟨gr, i * 3, none⟩ (.int .i64 x)) w2.heap.size 25 #[.int .i64 f, .int .i64 t, .int .i64 tag, .slice (some ⟨gr, 0, none⟩) m c2] := by (repeat' (first | (with_reducible exact Qb) | (with_reducible refine Blk.drewN ?_ _) | (with_reducible refine Blk.drew ?_) | (with_reducible refine Blk.new1 ?hb; case hb => (first | omega | (simp; done) | (simp; omega))) | (with_reducible refine Blk.alloc ?_ _) | (with_reducible refine' Blk.set2_0 ?_ ?hb; case hb => (first | omega | (simp; done) | (simp; omega))) | (with_reducible refine' Blk.set2_1 ?_ ?hb; case hb => (first | omega | (simp; done) | (simp; omega))) | (with_reducible refine' Blk.set3_0 ?_ ?hb; case hb => (first | omega | (simp; done) | (simp; omega))) | (with_reducible refine' Blk.set3_1 ?_ ?hb; case hb => (first | omega | (simp; done) | (simp; omega))) | (with_reducible refine' Blk.set3_2 ?_ ?hb; case hb => (first | omega | (simp; done) | (simp; omega))) | (with_reducible refine' Blk.set4_0 ?_ ?hb; case hb => (first | omega | (simp; done) | (simp; omega))) | (with_reducible refine' Blk.set4_1 ?_ ?hb; case hb => (first | omega | (simp; done) | (simp; omega))) | (with_reducible refine' Blk.set4_2 ?_ ?hb; case hb => (first | omega | (simp; done) | (simp; omega))) | (with_reducible refine' Blk.set4_3 ?_ ?hb; case hb => (first | omega | (simp; done) | (simp; omega))) | (with_reducible refine' Blk.set7_0 ?_ ?hb; case hb => (first | omega | (simp; done) | (simp; omega))) | (with_reducible refine' Blk.set7_1 ?_ ?hb; case hb => (first | omega | (simp; done) | (simp; omega))) | (with_reducible refine' Blk.set7_2 ?_ ?hb; case hb => (first | omega | (simp; done) | (simp; omega))) | (with_reducible refine' Blk.set7_3 ?_ ?hb; case hb => (first | omega | (simp; done) | (simp; omega))) | (with_reducible refine' Blk.set7_4 ?_ ?hb; case hb => (first | omega | (simp; done) | (simp; omega))) | (with_reducible refine' Blk.set7_5 ?_ ?hb; case hb => (first | omega | (simp; done) | (simp; omega))) | (with_reducible refine' Blk.set7_6 ?_ ?hb; case hb => (first | omega | (simp; done) | (simp; omega))) | (with_reducible refine Blk.far ?_ ?hb _; case hb => (first | omega | (simp; done) | (simp; omega))) | fail))
                have ZW : Blk (wb.setCell ⟨gr, i * 3, none⟩ (.int .i64 x)) w.heap.size 25 #[.int .i64 0, .int .i64 0, .int .i64 0, .slice none 0 0] := by (repeat' (first | (with_reducible exact Zb) | (with_reducible refine Blk.drewN ?_ _) | (with_reducible refine Blk.drew ?_) | (with_reducible refine Blk.new1 ?hb; case hb => (first | omega | (simp; done) | (simp; omega))) | (with_reducible refine Blk.alloc ?_ _) | (with_reducible refine' Blk.set2_0 ?_ ?hb; case hb => (first | omega | (simp; done) | (simp; omega))) | (with_reducible refine' Blk.set2_1 ?_ ?hb; case hb => (first | omega | (simp; done) | (simp; omega))) | (with_reducible refine' Blk.set3_0 ?_ ?hb; case hb => (first | omega | (simp; done) | (simp; omega))) | (with_reducible refine' Blk.set3_1 ?_ ?hb; case hb => (first | omega | (simp; done) | (simp; omega))) | (with_reducible refine' Blk.set3_2 ?_ ?hb; case hb => (first | omega | (simp; done) | (simp; omega))) | (with_reducible refine' Blk.set4_0 ?_ ?hb; case hb => (first | omega | (simp; done) | (simp; omega))) | (with_reducible refine' Blk.set4_1 ?_ ?hb; case hb => (first | omega | (simp; done) | (simp; omega))) | (with_reducible refine' Blk.set4_2 ?_ ?hb; case hb => (first | omega | (simp; done) | (simp; omega))) | (with_reducible refine' Blk.set4_3 ?_ ?hb; case hb => (first | omega | (simp; done) | (simp; omega))) | (with_reducible refine' Blk.set7_0 ?_ ?hb; case hb => (first | omega | (simp; done) | (simp; omega))) | (with_reducible refine' Blk.set7_1 ?_ ?hb; case hb => (first | omega | (simp; done) | (simp; omega))) | (with_reducible refine' Blk.set7_2 ?_ ?hb; case hb => (first | omega | (simp; done) | (simp; omega))) | (with_reducible refine' Blk.set7_3 ?_ ?hb; case hb => (first | omega | (simp; done) | (simp; omega))) | (with_reducible refine' Blk.set7_4 ?_ ?hb; case hb => (first | omega | (simp; done) | (simp; omega))) | (with_reducible refine' Blk.set7_5 ?_ ?hb; case hb => (first | omega | (simp; done) | (simp; omega))) | (with_reducible refine' Blk.set7_6 ?_ ?hb; case hb => (first | omega | (simp; done) | (simp; omega))) | (with_reducible refine Blk.far ?_ ?hb _; case hb => (first | omega | (simp; done) | (simp; omega))) | fail))
                obtain ⟨A9, c9, he9, q1, q2, q3⟩ := (show OG wb (w1.heap.size + 1) (.slice (some ⟨gr, 0, none⟩) m c2) xs by (repeat' (first | (with_reducible exact OHb.out) | with_reducible refine OG.alloc ?_ _ | with_reducible refine OG.drew ?_ | with_reducible refine OG.drewN ?_ _ | with_reducible refine OG.old ?_ ?_ _ | omega | (simp; done) | (simp; omega)))).formN HM.out
                cases he9
                have GW := Lib.hid ((q3.put him x).more (B' := (wb.setCell ⟨gr, i * 3, none⟩ (.int .i64 x)).heap.size) (by simp [World.setCell]))
                have BW := Lib.hid (show Below w.heap.size w (wb.setCell ⟨gr, i * 3, none⟩ (.int .i64 x)) by (repeat' (first | with_reducible exact BHb.out | with_reducible exact Below.refl _ _ | with_reducible refine below_drew1 ?_ | with_reducible refine below_drewN ?_ _ | with_reducible refine Below.alloc ?_ ?_ _ | with_reducible refine Below.setCell ?_ ?_ _ | omega | (simp; done) | (simp; omega))))
                clear q3 hHeld ob0 obf Qb Zb Qa Za hRa hRb hga hgb
                try clear l4
                try clear l5
                try clear l6
                try clear e3
                generalize hW : (wb.setCell ⟨gr, i * 3, none⟩ (.int .i64 x)) = W at *
                obtain ⟨⟨d0, d1, d2, d3⟩, g0, g1, g2, g3⟩ := ZW.get4
                obtain ⟨⟨r0, r1, r2, r3⟩, s0, s1, s2, s3⟩ := QW.get4
                have zl := ZW.lt
                have ql := QW.lt
                clear hW QW ZW v0 v1 v2 v3 vf0 vf1 vf2 vf3
                go_wp2
                refine bodyPost_ret (v := .agg #[.int .i64 f, .int .i64 t, .int .i64 tag, .slice (some ⟨gr, 0, none⟩) m c2]) (by simp [results, Try.results27, go_sem, d0, d1, d2, d3]) rfl ?_
                exact ⟨f, t, tag, _, m, c2, _, rfl, hf0, hf1, ht0, ht1, htg0, htg1, hl, hn1, hn2, ChGood.set HGD.out (i := i) (by rw [HM.out]; exact him) hx0 hx1, Gaps.more (B := W.heap.size) (by (repeat' (first | (with_reducible exact GW.out) | (with_reducible refine Gaps.other ?_ ?_ _) | omega | (simp; done) | (simp; omega)))) (by simp [World.setCell]), by (repeat' (first | with_reducible exact BW.out | with_reducible exact Below.refl _ _ | with_reducible refine below_drew1 ?_ | with_reducible refine below_drewN ?_ _ | with_reducible refine Below.alloc ?_ ?_ _ | with_reducible refine Below.setCell ?_ ?_ _ | omega | (simp; done) | (simp; omega)))⟩
              exact AllReadyH.nil
            exact AllReadyH.nil
          exact AllReadyH.nil
        exact AllReadyH.nil
      exact AllReadyH.nil
    · have hvb : (v == 0) = false := by simp; omega
      obtain ⟨⟨d0, d1, d2, d3⟩, e0, e1, e2, e3⟩ := hZ4.get4
      have hzl := hZ4.lt
      clear hZ4
      go_wp2
      refine bodyPost_ret (v := .agg #[.int .i64 f, .int .i64 t, .int .i64 tag, .slice (some ⟨gr, 0, none⟩) m c2]) (by simp [results, Try.results27, go_sem, d0, d1, d2, d3]) rfl ?_
      obtain ⟨A', c', he, q1, q2, q3⟩ := OV.out.formN HM.out
      cases he
      exact ⟨f, t, tag, _, m, c2, xs, rfl, hf0, hf1, ht0, ht1, htg0, htg1, hl, hn1, hn2, HGD.out, by (repeat' (first | (with_reducible exact q3) | (with_reducible refine Gaps.other ?_ ?_ _) | omega | (simp; done) | (simp; omega))), by (repeat' (first | with_reducible exact BV.out | with_reducible exact Below.refl _ _ | with_reducible refine below_drew1 ?_ | with_reducible refine below_drewN ?_ _ | with_reducible refine Below.alloc ?_ ?_ _ | with_reducible refine Below.setCell ?_ ?_ _ | omega | (simp; done) | (simp; omega)))⟩
end Go.Proofs.Ytfkajcljcbdjiaa
