/-
  Drawn packets.
-/
import Derived.Test.YtfkajcljcbdjiaaOChs
import Derived.Test.YtfkajcljcbdjiaaDrawChunk
import Derived.Test.YtfkajcljcbdjiaaDrawLong
import Derived.Deep.RegionWith
import Derived.Deep.DeepCutAuto
namespace Go.Proofs.Ytfkajcljcbdjiaa
set_option linter.unusedVariables false
set_option linter.unusedSimpArgs false
open Go.RowKit

theorem Blk.own {w w' : World} {k : Nat} {t : TypeId} {cs : Array Value} {row : Option Nat} (h : Blk w k t cs) (hg : w.grownBy w' row) (hk : some k ≠ row) : Blk w' k t cs := (hg.block k h.lt hk).trans h
/-- Chunks within the bounds of the drawn ones. -/
def ChGood (xs : List (Int × Int × ByteArray)) : Prop := ∀ x ∈ xs, -1 ≤ x.1 ∧ x.1 ≤ 256 ∧ -1 ≤ x.2.1 ∧ x.2.1 ≤ 256 ∧ x.2.2.size ≤ 62
theorem ChGood.app {xs ys : List (Int × Int × ByteArray)} (h : ChGood xs) (k : ChGood ys) : ChGood (xs ++ ys) := fun x hx => by
  rcases List.mem_append.1 hx with h1 | h1
  · exact h x h1
  · exact k x h1
theorem ChGood.nil : ChGood [] := fun x hx => by cases hx
theorem ChGood.one {a b : Int} {s : ByteArray} (h : -1 ≤ a) (h1 : a ≤ 256) (h2 : -1 ≤ b) (h3 : b ≤ 256) (h4 : s.size ≤ 62) : ChGood [(a, b, s)] := fun x hx => by
  have : x = (a, b, s) := by simpa using hx
  subst this
  exact ⟨h, h1, h2, h3, h4⟩
theorem ChGood.get {xs : List (Int × Int × ByteArray)} (h : ChGood xs) (i : Nat) (hi : i < xs.length) : -1 ≤ (xs.getD i ch0).1 ∧ (xs.getD i ch0).1 ≤ 256 ∧ -1 ≤ (xs.getD i ch0).2.1 ∧ (xs.getD i ch0).2.1 ≤ 256 ∧ (xs.getD i ch0).2.2.size ≤ 62 := by
  have e : xs.getD i ch0 = xs[i] := by rw [List.getD_eq_getElem?_getD, List.getElem?_eq_getElem hi]; rfl
  rw [e]
  exact h _ (List.getElem_mem hi)
/-- The packet that is being drawn: the result's block, its variable q, the reader. -/
structure PW (w wr : World) (g q K : Nat) (f t tag : Int) (v : Value) : Prop where
  res : Blk wr w.heap.size 25 #[.int .i64 0, .int .i64 0, .int .i64 0, .slice none 0 0]
  var : Blk wr q 25 #[.int .i64 f, .int .i64 t, .int .i64 tag, v]
  qgt : w.heap.size < q
  rd : Rd wr g K
  own : w.grownBy wr (some g)
  gw : g < w.heap.size
section
variable {w wr wr' : World} {g q gr k c K K' : Nat} {f t tag : Int} {v : Value} {xs : List (Int × Int × ByteArray)}
theorem PW.grown (h : PW w wr g q K f t tag v) (hg : wr.grownBy wr' (some g)) (hR : Rd wr' g K') : PW w wr' g q K' f t tag v :=
  have := h.gw
  have := h.qgt
  ⟨h.res.grown hg (by omega), h.var.grown hg (by omega), h.qgt, hR, only_trans h.own hg, h.gw⟩
/-- A row of the call's own turned. -/
theorem PW.turn {r : Nat} (h : PW w wr g q K f t tag v) (hg : wr.grownBy wr' (some r)) (hr : w.heap.size < r) (hq : r ≠ q) : PW w wr' g q K f t tag v := by
  have h1 := h.gw
  have h2 := h.qgt
  have h3 := h.res.lt
  refine ⟨h.res.grown hg (by omega), h.var.grown hg (by omega), h2, ?_, ?_, h1⟩
  · exact h.rd.below ((Below.refl (w.heap.size + 1) wr).grown hg (by omega) (fun j e => by injection e with e; omega)) (by omega)
  · have e := h.own
    exact ⟨hg.os.trans e.os, hg.tape.trans e.tape, hg.output.trans e.output, Nat.le_trans e.size hg.size, fun i hi hne => (hg.block i (Nat.lt_of_lt_of_le hi e.size) (fun e => by injection e with e; omega)).trans (e.block i hi hne)⟩
theorem PW.alloc (h : PW w wr g q K f t tag v) (o : Obj) : PW w (wr.alloc o) g q K f t tag v := ⟨h.res.alloc o, h.var.alloc o, h.qgt, h.rd.alloc o, only_alloc h.own o, h.gw⟩
theorem PW.drew (h : PW w wr g q K f t tag v) : PW w wr.drew g q K f t tag v := ⟨h.res, h.var, h.qgt, h.rd, only_drew h.own, h.gw⟩
theorem PW.drewN (h : PW w wr g q K f t tag v) (n : Nat) : PW w (wr.drewN n) g q K f t tag v := ⟨h.res, h.var, h.qgt, h.rd, only_drewN h.own n, h.gw⟩
theorem PW.mono (h : PW w wr g q K f t tag v) (hK : K ≤ K') : PW w wr g q K' f t tag v := ⟨h.res, h.var, h.qgt, h.rd.mono hK, h.own, h.gw⟩
theorem PW.set3 (h : PW w wr g q K f t tag v) (u : Value) : PW w (wr.setCell ⟨q, 3, none⟩ u) g q K f t tag u :=
  have h1 := h.gw
  have h2 := h.qgt
  ⟨h.res.far (by show w.heap.size ≠ q; omega) _, Blk.set4_3 h.var rfl, h2, h.rd.setCell (by show g < q; omega) _, only_setCell h.own (.inr (by show w.heap.size ≤ q; omega)) _, h1⟩
/-- .. and its row gr, with the chunks xs. -/
structure PSt (w wr : World) (g q gr k c K : Nat) (f t tag : Int) (xs : List (Int × Int × ByteArray)) : Prop where
  pw : PW w wr g q K f t tag (.slice (some ⟨gr, 0, none⟩) k c)
  row : OG wr (w.heap.size + 1) (.slice (some ⟨gr, 0, none⟩) k c) xs
  len : xs.length = k
  ne : gr ≠ q
  gt : w.heap.size < gr
  rlt : gr < wr.heap.size
  good : ChGood xs
theorem PSt.grown (h : PSt w wr g q gr k c K f t tag xs) (hg : wr.grownBy wr' (some g)) (hR : Rd wr' g K') : PSt w wr' g q gr k c K' f t tag xs :=
  have := h.pw.gw
  ⟨h.pw.grown hg hR, h.row.grown hg (by omega), h.len, h.ne, h.gt, Nat.lt_of_lt_of_le h.rlt hg.size, h.good⟩
theorem PSt.alloc (h : PSt w wr g q gr k c K f t tag xs) (o : Obj) : PSt w (wr.alloc o) g q gr k c K f t tag xs := ⟨h.pw.alloc o, h.row.alloc o, h.len, h.ne, h.gt, Nat.lt_of_lt_of_le h.rlt (by simp), h.good⟩
theorem PSt.drew (h : PSt w wr g q gr k c K f t tag xs) : PSt w wr.drew g q gr k c K f t tag xs := ⟨h.pw.drew, h.row, h.len, h.ne, h.gt, h.rlt, h.good⟩
theorem PSt.drewN (h : PSt w wr g q gr k c K f t tag xs) (n : Nat) : PSt w (wr.drewN n) g q gr k c K f t tag xs := ⟨h.pw.drewN n, h.row, h.len, h.ne, h.gt, h.rlt, h.good⟩
theorem PSt.mono (h : PSt w wr g q gr k c K f t tag xs) (hK : K ≤ K') : PSt w wr g q gr k c K' f t tag xs := ⟨h.pw.mono hK, h.row, h.len, h.ne, h.gt, h.rlt, h.good⟩
/-- Behind an append: the variable holds the longer row. -/
theorem PSt.of {g4 m c4 : Nat} {v : Value} {ys : List (Int × Int × ByteArray)} (h : PW w wr g q K f t tag v) (hO : OG wr (w.heap.size + 1) (.slice (some ⟨g4, 0, none⟩) m c4) ys) (hl : ys.length = m) (hne : g4 ≠ q) (hgt : w.heap.size < g4) (hlt : g4 < wr.heap.size) (hg : ChGood ys) :
    PSt w (wr.setCell ⟨q, 3, none⟩ (.slice (some ⟨g4, 0, none⟩) m c4)) g q g4 m c4 K f t tag ys :=
  ⟨h.set3 _, hO.far (by show q ≠ g4; omega) _, hl, hne, hgt, by simpa [World.setCell] using hlt, hg⟩
theorem OG.none_ {w : World} {base gr k c : Nat} {xs : List (Int × Int × ByteArray)} (h : OG w base (.slice (some ⟨gr, 0, none⟩) k c) xs) (hl : xs.length = k) : OG w base (.slice (some ⟨gr, 0, none⟩) 0 c) [] := by
  have h2 : w.ownsRow base 41 3 (.slice (some ⟨gr, 0, none⟩) (0 + k) c) (0 + k) ([] ++ flatG xs) := by rw [Nat.zero_add]; exact h.row hl
  exact own_prefix h2 rfl
end
theorem OG.newsOf {w : World} {base gr k c : Nat} {xs : List (Int × Int × ByteArray)} (h : OG w base (.slice (some ⟨gr, 0, none⟩) k c) xs) (hl : xs.length = k) : ∀ j u, (flatG xs)[j]? = some u → w.cell? ((⟨gr, 0, none⟩ : Addr).add j) = some u := by
  obtain ⟨A, c', he, _, _, hG⟩ := h.formN hl
  cases he
  exact hG.news
/-- A packet is handed back, the reader may have moved on. -/
def RdPack (w : World) (g k : Nat) (e : Ending) (w' : World) : Prop :=
  ∃ (f t tag : Int) (v : Value) (xs : List (Int × Int × ByteArray)), e = .returned (.agg #[.int .i64 f, .int .i64 t, .int .i64 tag, v]) ∧ -1 ≤ f ∧ f ≤ 65536 ∧ -1 ≤ t ∧ t ≤ 65536 ∧ -1 ≤ tag ∧ tag ≤ 4294967296 ∧ xs.length ≤ 9 ∧ ChGood xs ∧ OG w' (w.heap.size + 1) v xs ∧ Rd w' g k ∧ w.grownBy w' (some g)
set_option maxRecDepth 100000 in
set_option maxHeartbeats 8000000 in
theorem c_l91Packet (g k : Nat) (w : World) (hR : Rd w g k) (hk : k ≤ 60000) : Calls Try.prog 29 #[.pointer (some ⟨g, 0, none⟩)] w (RdPack w g (k + 200)) := by
  obtain ⟨i0, hi, hz0, hz1, hz2⟩ := info_parts Try.infoChunk
  have hgw := hR.lt
  go_enter Try.func29, Try.ntmps29
  go_wp2_with fail
  refine (c_pick g k 20 _ (hR.alloc _) (by omega) (by omega)).mono ?_
  rintro e w1 ⟨tag, rfl, htg0, htg1, hR1, hg1⟩
  have hQ1 : Blk w1 w.heap.size 25 #[.int .i64 0, .int .i64 0, .int .i64 0, .slice none 0 0] := Blk.grown (Blk.new w _ _) hg1 (by omega)
  have G1 := Lib.hid (only_trans (only_alloc (only_refl w g) _) hg1)
  clear hg1
  go_wp2_with fail
  refine (c_l91Chunk g (k + 1) _ hR1 (by omega)).mono ?_
  rintro e w2 ⟨a, b, s, rfl, ha0, ha1, hb0, hb1, hs, hR2, hg2⟩
  have hQ2 := hQ1.grown hg2 (by omega)
  have hq2 := hQ2.lt
  have G2 := Lib.hid (only_trans G1.out hg2)
  clear hg2 G1 hQ1 hR1
  have hst : ∀ o : Obj, o = .cells #[.int .i64 7, .int .i64 9, .int .i64 tag, .slice (some ⟨w2.heap.size, 0, none⟩) 1 1] 25 → PSt w ((w2.alloc (.cells #[.int .i64 a, .int .i64 b, .string s] 41)).alloc o) g (w2.heap.size + 1) w2.heap.size 1 1 (k + 1 + 40) 7 9 tag [(a, b, s)] := by
    rintro o rfl
    refine ⟨⟨(hQ2.alloc _).alloc _, by simpa using Blk.new (w2.alloc (.cells #[.int .i64 a, .int .i64 b, .string s] 41)) 25 _, by omega, (hR2.alloc _).alloc _, only_alloc (only_alloc G2.out _) _, hgw⟩, ?_, rfl, by omega, by omega, by simp; omega, ChGood.one ha0 ha1 hb0 hb1 hs⟩
    exact OG.alloc (show OG (w2.alloc (.cells #[.int .i64 a, .int .i64 b, .string s] 41)) (w.heap.size + 1) (.slice (some ⟨w2.heap.size, 0, none⟩) 1 1) [(a, b, s)] from World.ownsRow_lit w2 #[.int .i64 a, .int .i64 b, .string s] 1 (by omega) (by decide) rfl) _
  have ST := Lib.hid (hst _ rfl)
  clear hst
  go_wp2_with fail
  refine (c_pick g (k + 1 + 40) 3 _ ST.out.pw.rd (by omega) (by omega)).mono ?_
  rintro e w3 ⟨n0, rfl, hn0, hn1, hR3, hg3⟩
  have S3 := Lib.hid (ST.out.grown hg3 hR3)
  clear hg3 hR3 ST hR2 hQ2 G2
  obtain ⟨n, rfl⟩ := Int.eq_ofNat_of_zero_le hn0
  have hn2 : n ≤ 2 := by omega
  clear hn0 hn1
  generalize w2.heap.size + 1 = q at *
  generalize w2.heap.size = gr0 at *
  go_wp2
  go_loopw [5] (fun i wr => ∃ (j gr l c : Nat) (xs : List (Int × Int × ByteArray)), j ≤ n ∧ i = .int .i64 j ∧ l ≤ 1 + j ∧ PSt w wr g q gr l c (k + 42 + 40 * j) 7 9 tag xs) (fun i _ => n - (intOf i).toNat)
  case atStart => exact ⟨0, gr0, 1, 1, [(a, b, s)], by omega, rfl, by omega, S3.out⟩
  case round =>
    clear S3
    obtain ⟨j, gr, l, c, xs, hj, rfl, hlj, hS⟩ := hrel
    have SR := Lib.hid hS
    clear hS
    have hlr := SR.out.len
    have hll : l ≤ 3 := by omega
    by_cases hlt : j < n
    · have hjn : (j : Int) < (n : Int) := by omega
      have r3 : wr.cell? ⟨q, 3, none⟩ = some (.slice (some ⟨gr, 0, none⟩) l c) := SR.out.pw.var.cell 3
      have hqlr := SR.out.pw.var.lt
      have hrlr := SR.out.rlt
      have hwlr := SR.out.pw.res.lt
      go_wp2_with fail
      refine wp_region_noPanic ?_
      refine wp_region_held_drew (S := fun _ => True) (by kernel_rfl) ?_ (fun hHeld => ?_)
      · trivial
      refine' wpAnyH_take (i := 0) (v := _) rfl (by kernel_rfl) (by kernel_rfl) (by kernel_rfl) (fun _ _ _ h => h) (Or.inl ⟨by rfl, ?hyr1⟩) (by assumption) ?restr1
      case hyr1 => (intro w hSw; (try dsimp only at hSw); go_simp; try with_reducible rfl)
      try simp only [Act.put, List.getElem_toArray, List.getElem_cons_zero, List.getElem_cons_succ, List.setIfInBounds_toArray, List.set_cons_zero, List.set_cons_succ]
      refine' wpAnyH_take (i := 2) (v := _) rfl (by kernel_rfl) (by kernel_rfl) (by kernel_rfl) (fun _ _ _ h => h) (Or.inl ⟨by rfl, ?hyr2⟩) (by assumption) ?restr2
      case hyr2 => (intro w hSw; (try dsimp only at hSw); go_simp; try with_reducible rfl)
      try simp only [Act.put, List.getElem_toArray, List.getElem_cons_zero, List.getElem_cons_succ, List.setIfInBounds_toArray, List.set_cons_zero, List.set_cons_succ]
      refine wpAnyH_ready (rs := [1, 3]) (by kernel_rfl) (by simp) ?_
      refine AllReadyH.cons (o := _) rfl (fun K hK => ?_) ?_
      · go_simp
        refine hK.out _ _ ?_ (fun hHeld => ?_)
        · trivial
        clear hK K
        try simp only [Act.put, List.getElem_toArray, List.getElem_cons_zero, List.getElem_cons_succ, List.setIfInBounds_toArray, List.set_cons_zero, List.set_cons_succ]
        refine wpAnyH_ready (rs := [3]) (by kernel_rfl) (by simp) ?_
        refine AllReadyH.cons (o := _) rfl (fun K hK => ?_) ?_
        · go_simp
          with_reducible refine (c_l91Chunk g (k + 42 + 40 * j) _ (by (repeat' (first | with_reducible exact SR.out.pw.rd | with_reducible refine Rd.mono SR.out.pw.rd ?_ | with_reducible refine Rd.setCell ?_ ?_ _ | with_reducible refine Rd.alloc ?_ _ | with_reducible refine Rd.drewN ?_ _ | with_reducible refine Rd.drew ?_ | omega | (simp; done) | (simp; omega)))) (by omega)).mono ?_
          rintro e wa ⟨a, b, s, rfl, ha0, ha1, hb0, hb1, hs, hRa, hga⟩
          have SA := Lib.hid (PSt.grown (by first | exact SR.out | exact SR.out.drew | exact SR.out.drewN _) hga hRa)
          have sa3 : wa.cell? ⟨q, 3, none⟩ = some (.slice (some ⟨gr, 0, none⟩) l c) := SA.out.pw.var.cell 3
          have hqSA := SA.out.pw.var.lt
          have e1 := fun (o : Obj) => show (wa.alloc o).cell? ⟨q, 3, none⟩ = some (.slice (some ⟨gr, 0, none⟩) l c) from (World.cell?_alloc_lt wa o _ hqSA).trans sa3
          have hrSA := SA.out.pw.res.lt
          have hgSA := SA.out.rlt
          have hlSA := SA.out.len
          clear hga hRa
          go_wp2_with fail
          refine hK.out _ _ ?_ (fun hHeld => ?_)
          · trivial
          clear hK K
          try simp only [Act.put, List.getElem_toArray, List.getElem_cons_zero, List.getElem_cons_succ, List.setIfInBounds_toArray, List.set_cons_zero, List.set_cons_succ]
          refine wpAnyH_ready (rs := [4]) (by kernel_rfl) (by simp) ?_
          refine AllReadyH.cons (o := _) rfl (fun K hK => ?_) ?_
          · go_simp
            refine hK.out _ _ ?_ (fun hHeld => ?_)
            · trivial
            clear hK K
            try simp only [Act.put, List.getElem_toArray, List.getElem_cons_zero, List.getElem_cons_succ, List.setIfInBounds_toArray, List.set_cons_zero, List.set_cons_succ]
            refine wpAnyH_ready (rs := [5]) (by kernel_rfl) (by simp) ?_
            refine AllReadyH.cons (o := _) rfl (fun K hK => ?_) ?_
            · refine step_append_lies _ (by rfl) _ _ _ (by rfl) (w.heap.size + 1) 41 i0 _ 3 32 Try.underlying23 hi hz0 hz1 hz2 rfl (by decide) (.slice (some ⟨gr, 0, none⟩) l c) l (flatG xs) (by rfl) ?c0 ⟨wa.heap.size, 0, none⟩ 1 1 [.int .i64 a, .int .i64 b, .string s] (by rfl) (by rfl) ?c1 ?c2 (by omega) ?c3 ?c4 ?c5 (wa.heap.size + 1) ?c6 ?_
              case c0 => exact OG.row (by (repeat' (first | (with_reducible exact SA.out.row) | with_reducible refine OG.alloc ?_ _ | with_reducible refine OG.drew ?_ | with_reducible refine OG.drewN ?_ _ | with_reducible refine OG.old ?_ ?_ _ | omega | (simp; done) | (simp; omega)))) SA.out.len
              case c1 => exact World.news_of_block (cs := #[.int .i64 a, .int .i64 b, .string s]) (t := 41) (fr := (0, 0)) (by show Blk _ _ _ _; (repeat' (first | (with_reducible refine Blk.drewN ?_ _) | (with_reducible refine Blk.drew ?_) | (with_reducible refine Blk.new1 ?hb; case hb => (first | omega | (simp; done) | (simp; omega))) | (with_reducible refine Blk.alloc ?_ _) | (with_reducible refine' Blk.set2_0 ?_ ?hb; case hb => (first | omega | (simp; done) | (simp; omega))) | (with_reducible refine' Blk.set2_1 ?_ ?hb; case hb => (first | omega | (simp; done) | (simp; omega))) | (with_reducible refine' Blk.set3_0 ?_ ?hb; case hb => (first | omega | (simp; done) | (simp; omega))) | (with_reducible refine' Blk.set3_1 ?_ ?hb; case hb => (first | omega | (simp; done) | (simp; omega))) | (with_reducible refine' Blk.set3_2 ?_ ?hb; case hb => (first | omega | (simp; done) | (simp; omega))) | (with_reducible refine' Blk.set4_0 ?_ ?hb; case hb => (first | omega | (simp; done) | (simp; omega))) | (with_reducible refine' Blk.set4_1 ?_ ?hb; case hb => (first | omega | (simp; done) | (simp; omega))) | (with_reducible refine' Blk.set4_2 ?_ ?hb; case hb => (first | omega | (simp; done) | (simp; omega))) | (with_reducible refine' Blk.set4_3 ?_ ?hb; case hb => (first | omega | (simp; done) | (simp; omega))) | (with_reducible refine' Blk.set7_0 ?_ ?hb; case hb => (first | omega | (simp; done) | (simp; omega))) | (with_reducible refine' Blk.set7_1 ?_ ?hb; case hb => (first | omega | (simp; done) | (simp; omega))) | (with_reducible refine' Blk.set7_2 ?_ ?hb; case hb => (first | omega | (simp; done) | (simp; omega))) | (with_reducible refine' Blk.set7_3 ?_ ?hb; case hb => (first | omega | (simp; done) | (simp; omega))) | (with_reducible refine' Blk.set7_4 ?_ ?hb; case hb => (first | omega | (simp; done) | (simp; omega))) | (with_reducible refine' Blk.set7_5 ?_ ?hb; case hb => (first | omega | (simp; done) | (simp; omega))) | (with_reducible refine' Blk.set7_6 ?_ ?hb; case hb => (first | omega | (simp; done) | (simp; omega))) | (with_reducible refine Blk.far ?_ ?hb _; case hb => (first | omega | (simp; done) | (simp; omega))) | fail)))
              case c2 => simp [Value.oneCell']
              case c3 => unfold maxLen; omega
              case c4 => omega
              case c5 => (first | omega | (simp; done) | (simp; omega))
              case c6 => (first | omega | (simp; done) | (simp; omega))
              intro g4 c4 w4 hown4 hgrow hat4 hl4
              have hat5 : g4 ≠ q ∧ w.heap.size < g4 := by
                have h1 := SA.out.ne
                have h2 := SA.out.gt
                have h3 := SA.out.pw.var.lt
                have h4 := SA.out.pw.res.lt
                rcases hat4 with h | h
                · have : gr = g4 := by simpa [Value.ownBlock] using h
                  omega
                · omega
              have hgrow : World.grownBy _ w4 (some gr) := hgrow
              have WN := Lib.hid (PW.turn (by first | exact SA.out.pw.alloc _ | exact (SA.out.pw.alloc _).drew | exact SA.out.pw.drew.alloc _) hgrow SA.out.gt SA.out.ne)
              have SN := Lib.hid (PSt.of WN.out (OG.join (xs := xs) (ys := [(a, b, s)]) hown4 SA.out.len rfl) (by simp [SA.out.len]) hat5.1 hat5.2 hl4 (ChGood.app SA.out.good (ChGood.one ha0 ha1 hb0 hb1 hs)))
              have a3 : w4.cell? ⟨q, 3, none⟩ = some (.slice (some ⟨gr, 0, none⟩) l c) := WN.out.var.cell 3
              have af3 := WN.out.var.frozen 3
              have hq4 := WN.out.var.lt
              clear hown4 hgrow hat4
              refine hK.out _ _ ?_ (fun hHeld => ?_)
              · trivial
              clear hK K
              try simp only [Act.put, List.getElem_toArray, List.getElem_cons_zero, List.getElem_cons_succ, List.setIfInBounds_toArray, List.set_cons_zero, List.set_cons_succ]
              refine' wpAnyH_take (i := 6) (v := _) rfl (by kernel_rfl) (by kernel_rfl) (by kernel_rfl) (fun _ _ _ h => h) (Or.inl ⟨by rfl, ?hyr3⟩) (by assumption) ?restr3
              case hyr3 => (intro w hSw; (try dsimp only at hSw); go_simp; try with_reducible rfl)
              try simp only [Act.put, List.getElem_toArray, List.getElem_cons_zero, List.getElem_cons_succ, List.setIfInBounds_toArray, List.set_cons_zero, List.set_cons_succ]
              refine wpAnyH_ready (rs := [7]) (by kernel_rfl) (by simp) ?_
              refine AllReadyH.cons (o := _) rfl (fun K hK => ?_) ?_
              · go_simp
                refine hK.out _ _ ?_ (fun hHeld => ?_)
                · trivial
                clear hK K
                try simp only [Act.put, List.getElem_toArray, List.getElem_cons_zero, List.getElem_cons_succ, List.setIfInBounds_toArray, List.set_cons_zero, List.set_cons_succ]
                refine wpAnyH_done (by kernel_rfl) ?_ _
                refine NoPanic.normal ?_
                clear e1 sa3 a3 af3 hHeld
                generalize hW : w4.setCell _ _ = W at *
                go_wp2
                go_roundw
                case rel => exact ⟨j + 1, g4, l + 1, c4, xs ++ [(a, b, s)], by omega, by go_num, by omega, SN.out.mono (by omega)⟩
                case measure => simp [intOf]; omega
              exact AllReadyH.nil
            exact AllReadyH.nil
          exact AllReadyH.nil
        exact AllReadyH.nil
      refine AllReadyH.cons (o := _) rfl (fun K hK => ?_) ?_
      · go_simp
        with_reducible refine (c_l91Chunk g (k + 42 + 40 * j) _ (by (repeat' (first | with_reducible exact SR.out.pw.rd | with_reducible refine Rd.mono SR.out.pw.rd ?_ | with_reducible refine Rd.setCell ?_ ?_ _ | with_reducible refine Rd.alloc ?_ _ | with_reducible refine Rd.drewN ?_ _ | with_reducible refine Rd.drew ?_ | omega | (simp; done) | (simp; omega)))) (by omega)).mono ?_
        rintro e wa ⟨a, b, s, rfl, ha0, ha1, hb0, hb1, hs, hRa, hga⟩
        have SA := Lib.hid (PSt.grown (by first | exact SR.out | exact SR.out.drew | exact SR.out.drewN _) hga hRa)
        have sa3 : wa.cell? ⟨q, 3, none⟩ = some (.slice (some ⟨gr, 0, none⟩) l c) := SA.out.pw.var.cell 3
        have hqSA := SA.out.pw.var.lt
        have e1 := fun (o : Obj) => show (wa.alloc o).cell? ⟨q, 3, none⟩ = some (.slice (some ⟨gr, 0, none⟩) l c) from (World.cell?_alloc_lt wa o _ hqSA).trans sa3
        have hrSA := SA.out.pw.res.lt
        have hgSA := SA.out.rlt
        have hlSA := SA.out.len
        clear hga hRa
        go_wp2_with fail
        refine hK.out _ _ ?_ (fun hHeld => ?_)
        · trivial
        clear hK K
        try simp only [Act.put, List.getElem_toArray, List.getElem_cons_zero, List.getElem_cons_succ, List.setIfInBounds_toArray, List.set_cons_zero, List.set_cons_succ]
        refine wpAnyH_ready (rs := [1, 4]) (by kernel_rfl) (by simp) ?_
        refine AllReadyH.cons (o := _) rfl (fun K hK => ?_) ?_
        · go_simp
          refine hK.out _ _ ?_ (fun hHeld => ?_)
          · trivial
          clear hK K
          try simp only [Act.put, List.getElem_toArray, List.getElem_cons_zero, List.getElem_cons_succ, List.setIfInBounds_toArray, List.set_cons_zero, List.set_cons_succ]
          refine wpAnyH_ready (rs := [4]) (by kernel_rfl) (by simp) ?_
          refine AllReadyH.cons (o := _) rfl (fun K hK => ?_) ?_
          · go_simp
            refine hK.out _ _ ?_ (fun hHeld => ?_)
            · trivial
            clear hK K
            try simp only [Act.put, List.getElem_toArray, List.getElem_cons_zero, List.getElem_cons_succ, List.setIfInBounds_toArray, List.set_cons_zero, List.set_cons_succ]
            refine wpAnyH_ready (rs := [5]) (by kernel_rfl) (by simp) ?_
            refine AllReadyH.cons (o := _) rfl (fun K hK => ?_) ?_
            · refine step_append_lies _ (by rfl) _ _ _ (by rfl) (w.heap.size + 1) 41 i0 _ 3 32 Try.underlying23 hi hz0 hz1 hz2 rfl (by decide) (.slice (some ⟨gr, 0, none⟩) l c) l (flatG xs) (by rfl) ?c0 ⟨wa.heap.size, 0, none⟩ 1 1 [.int .i64 a, .int .i64 b, .string s] (by rfl) (by rfl) ?c1 ?c2 (by omega) ?c3 ?c4 ?c5 (wa.heap.size + 1) ?c6 ?_
              case c0 => exact OG.row (by (repeat' (first | (with_reducible exact SA.out.row) | with_reducible refine OG.alloc ?_ _ | with_reducible refine OG.drew ?_ | with_reducible refine OG.drewN ?_ _ | with_reducible refine OG.old ?_ ?_ _ | omega | (simp; done) | (simp; omega)))) SA.out.len
              case c1 => exact World.news_of_block (cs := #[.int .i64 a, .int .i64 b, .string s]) (t := 41) (fr := (0, 0)) (by show Blk _ _ _ _; (repeat' (first | (with_reducible refine Blk.drewN ?_ _) | (with_reducible refine Blk.drew ?_) | (with_reducible refine Blk.new1 ?hb; case hb => (first | omega | (simp; done) | (simp; omega))) | (with_reducible refine Blk.alloc ?_ _) | (with_reducible refine' Blk.set2_0 ?_ ?hb; case hb => (first | omega | (simp; done) | (simp; omega))) | (with_reducible refine' Blk.set2_1 ?_ ?hb; case hb => (first | omega | (simp; done) | (simp; omega))) | (with_reducible refine' Blk.set3_0 ?_ ?hb; case hb => (first | omega | (simp; done) | (simp; omega))) | (with_reducible refine' Blk.set3_1 ?_ ?hb; case hb => (first | omega | (simp; done) | (simp; omega))) | (with_reducible refine' Blk.set3_2 ?_ ?hb; case hb => (first | omega | (simp; done) | (simp; omega))) | (with_reducible refine' Blk.set4_0 ?_ ?hb; case hb => (first | omega | (simp; done) | (simp; omega))) | (with_reducible refine' Blk.set4_1 ?_ ?hb; case hb => (first | omega | (simp; done) | (simp; omega))) | (with_reducible refine' Blk.set4_2 ?_ ?hb; case hb => (first | omega | (simp; done) | (simp; omega))) | (with_reducible refine' Blk.set4_3 ?_ ?hb; case hb => (first | omega | (simp; done) | (simp; omega))) | (with_reducible refine' Blk.set7_0 ?_ ?hb; case hb => (first | omega | (simp; done) | (simp; omega))) | (with_reducible refine' Blk.set7_1 ?_ ?hb; case hb => (first | omega | (simp; done) | (simp; omega))) | (with_reducible refine' Blk.set7_2 ?_ ?hb; case hb => (first | omega | (simp; done) | (simp; omega))) | (with_reducible refine' Blk.set7_3 ?_ ?hb; case hb => (first | omega | (simp; done) | (simp; omega))) | (with_reducible refine' Blk.set7_4 ?_ ?hb; case hb => (first | omega | (simp; done) | (simp; omega))) | (with_reducible refine' Blk.set7_5 ?_ ?hb; case hb => (first | omega | (simp; done) | (simp; omega))) | (with_reducible refine' Blk.set7_6 ?_ ?hb; case hb => (first | omega | (simp; done) | (simp; omega))) | (with_reducible refine Blk.far ?_ ?hb _; case hb => (first | omega | (simp; done) | (simp; omega))) | fail)))
              case c2 => simp [Value.oneCell']
              case c3 => unfold maxLen; omega
              case c4 => omega
              case c5 => (first | omega | (simp; done) | (simp; omega))
              case c6 => (first | omega | (simp; done) | (simp; omega))
              intro g4 c4 w4 hown4 hgrow hat4 hl4
              have hat5 : g4 ≠ q ∧ w.heap.size < g4 := by
                have h1 := SA.out.ne
                have h2 := SA.out.gt
                have h3 := SA.out.pw.var.lt
                have h4 := SA.out.pw.res.lt
                rcases hat4 with h | h
                · have : gr = g4 := by simpa [Value.ownBlock] using h
                  omega
                · omega
              have hgrow : World.grownBy _ w4 (some gr) := hgrow
              have WN := Lib.hid (PW.turn (by first | exact SA.out.pw.alloc _ | exact (SA.out.pw.alloc _).drew | exact SA.out.pw.drew.alloc _) hgrow SA.out.gt SA.out.ne)
              have SN := Lib.hid (PSt.of WN.out (OG.join (xs := xs) (ys := [(a, b, s)]) hown4 SA.out.len rfl) (by simp [SA.out.len]) hat5.1 hat5.2 hl4 (ChGood.app SA.out.good (ChGood.one ha0 ha1 hb0 hb1 hs)))
              have a3 : w4.cell? ⟨q, 3, none⟩ = some (.slice (some ⟨gr, 0, none⟩) l c) := WN.out.var.cell 3
              have af3 := WN.out.var.frozen 3
              have hq4 := WN.out.var.lt
              clear hown4 hgrow hat4
              refine hK.out _ _ ?_ (fun hHeld => ?_)
              · trivial
              clear hK K
              try simp only [Act.put, List.getElem_toArray, List.getElem_cons_zero, List.getElem_cons_succ, List.setIfInBounds_toArray, List.set_cons_zero, List.set_cons_succ]
              refine' wpAnyH_take (i := 6) (v := _) rfl (by kernel_rfl) (by kernel_rfl) (by kernel_rfl) (fun _ _ _ h => h) (Or.inl ⟨by rfl, ?hyr4⟩) (by assumption) ?restr4
              case hyr4 => (intro w hSw; (try dsimp only at hSw); go_simp; try with_reducible rfl)
              try simp only [Act.put, List.getElem_toArray, List.getElem_cons_zero, List.getElem_cons_succ, List.setIfInBounds_toArray, List.set_cons_zero, List.set_cons_succ]
              refine wpAnyH_ready (rs := [7]) (by kernel_rfl) (by simp) ?_
              refine AllReadyH.cons (o := _) rfl (fun K hK => ?_) ?_
              · go_simp
                refine hK.out _ _ ?_ (fun hHeld => ?_)
                · trivial
                clear hK K
                try simp only [Act.put, List.getElem_toArray, List.getElem_cons_zero, List.getElem_cons_succ, List.setIfInBounds_toArray, List.set_cons_zero, List.set_cons_succ]
                refine wpAnyH_done (by kernel_rfl) ?_ _
                refine NoPanic.normal ?_
                clear e1 sa3 a3 af3 hHeld
                generalize hW : w4.setCell _ _ = W at *
                go_wp2
                go_roundw
                case rel => exact ⟨j + 1, g4, l + 1, c4, xs ++ [(a, b, s)], by omega, by go_num, by omega, SN.out.mono (by omega)⟩
                case measure => simp [intOf]; omega
              exact AllReadyH.nil
            exact AllReadyH.nil
          exact AllReadyH.nil
        refine AllReadyH.cons (o := _) rfl (fun K hK => ?_) ?_
        · go_simp
          refine hK.out _ _ ?_ (fun hHeld => ?_)
          · trivial
          clear hK K
          try simp only [Act.put, List.getElem_toArray, List.getElem_cons_zero, List.getElem_cons_succ, List.setIfInBounds_toArray, List.set_cons_zero, List.set_cons_succ]
          refine wpAnyH_ready (rs := [1]) (by kernel_rfl) (by simp) ?_
          refine AllReadyH.cons (o := _) rfl (fun K hK => ?_) ?_
          · go_simp
            refine hK.out _ _ ?_ (fun hHeld => ?_)
            · trivial
            clear hK K
            try simp only [Act.put, List.getElem_toArray, List.getElem_cons_zero, List.getElem_cons_succ, List.setIfInBounds_toArray, List.set_cons_zero, List.set_cons_succ]
            refine wpAnyH_ready (rs := [5]) (by kernel_rfl) (by simp) ?_
            refine AllReadyH.cons (o := _) rfl (fun K hK => ?_) ?_
            · refine step_append_lies _ (by rfl) _ _ _ (by rfl) (w.heap.size + 1) 41 i0 _ 3 32 Try.underlying23 hi hz0 hz1 hz2 rfl (by decide) (.slice (some ⟨gr, 0, none⟩) l c) l (flatG xs) (by rfl) ?c0 ⟨wa.heap.size, 0, none⟩ 1 1 [.int .i64 a, .int .i64 b, .string s] (by rfl) (by rfl) ?c1 ?c2 (by omega) ?c3 ?c4 ?c5 (wa.heap.size + 1) ?c6 ?_
              case c0 => exact OG.row (by (repeat' (first | (with_reducible exact SA.out.row) | with_reducible refine OG.alloc ?_ _ | with_reducible refine OG.drew ?_ | with_reducible refine OG.drewN ?_ _ | with_reducible refine OG.old ?_ ?_ _ | omega | (simp; done) | (simp; omega)))) SA.out.len
              case c1 => exact World.news_of_block (cs := #[.int .i64 a, .int .i64 b, .string s]) (t := 41) (fr := (0, 0)) (by show Blk _ _ _ _; (repeat' (first | (with_reducible refine Blk.drewN ?_ _) | (with_reducible refine Blk.drew ?_) | (with_reducible refine Blk.new1 ?hb; case hb => (first | omega | (simp; done) | (simp; omega))) | (with_reducible refine Blk.alloc ?_ _) | (with_reducible refine' Blk.set2_0 ?_ ?hb; case hb => (first | omega | (simp; done) | (simp; omega))) | (with_reducible refine' Blk.set2_1 ?_ ?hb; case hb => (first | omega | (simp; done) | (simp; omega))) | (with_reducible refine' Blk.set3_0 ?_ ?hb; case hb => (first | omega | (simp; done) | (simp; omega))) | (with_reducible refine' Blk.set3_1 ?_ ?hb; case hb => (first | omega | (simp; done) | (simp; omega))) | (with_reducible refine' Blk.set3_2 ?_ ?hb; case hb => (first | omega | (simp; done) | (simp; omega))) | (with_reducible refine' Blk.set4_0 ?_ ?hb; case hb => (first | omega | (simp; done) | (simp; omega))) | (with_reducible refine' Blk.set4_1 ?_ ?hb; case hb => (first | omega | (simp; done) | (simp; omega))) | (with_reducible refine' Blk.set4_2 ?_ ?hb; case hb => (first | omega | (simp; done) | (simp; omega))) | (with_reducible refine' Blk.set4_3 ?_ ?hb; case hb => (first | omega | (simp; done) | (simp; omega))) | (with_reducible refine' Blk.set7_0 ?_ ?hb; case hb => (first | omega | (simp; done) | (simp; omega))) | (with_reducible refine' Blk.set7_1 ?_ ?hb; case hb => (first | omega | (simp; done) | (simp; omega))) | (with_reducible refine' Blk.set7_2 ?_ ?hb; case hb => (first | omega | (simp; done) | (simp; omega))) | (with_reducible refine' Blk.set7_3 ?_ ?hb; case hb => (first | omega | (simp; done) | (simp; omega))) | (with_reducible refine' Blk.set7_4 ?_ ?hb; case hb => (first | omega | (simp; done) | (simp; omega))) | (with_reducible refine' Blk.set7_5 ?_ ?hb; case hb => (first | omega | (simp; done) | (simp; omega))) | (with_reducible refine' Blk.set7_6 ?_ ?hb; case hb => (first | omega | (simp; done) | (simp; omega))) | (with_reducible refine Blk.far ?_ ?hb _; case hb => (first | omega | (simp; done) | (simp; omega))) | fail)))
              case c2 => simp [Value.oneCell']
              case c3 => unfold maxLen; omega
              case c4 => omega
              case c5 => (first | omega | (simp; done) | (simp; omega))
              case c6 => (first | omega | (simp; done) | (simp; omega))
              intro g4 c4 w4 hown4 hgrow hat4 hl4
              have hat5 : g4 ≠ q ∧ w.heap.size < g4 := by
                have h1 := SA.out.ne
                have h2 := SA.out.gt
                have h3 := SA.out.pw.var.lt
                have h4 := SA.out.pw.res.lt
                rcases hat4 with h | h
                · have : gr = g4 := by simpa [Value.ownBlock] using h
                  omega
                · omega
              have hgrow : World.grownBy _ w4 (some gr) := hgrow
              have WN := Lib.hid (PW.turn (by first | exact SA.out.pw.alloc _ | exact (SA.out.pw.alloc _).drew | exact SA.out.pw.drew.alloc _) hgrow SA.out.gt SA.out.ne)
              have SN := Lib.hid (PSt.of WN.out (OG.join (xs := xs) (ys := [(a, b, s)]) hown4 SA.out.len rfl) (by simp [SA.out.len]) hat5.1 hat5.2 hl4 (ChGood.app SA.out.good (ChGood.one ha0 ha1 hb0 hb1 hs)))
              have a3 : w4.cell? ⟨q, 3, none⟩ = some (.slice (some ⟨gr, 0, none⟩) l c) := WN.out.var.cell 3
              have af3 := WN.out.var.frozen 3
              have hq4 := WN.out.var.lt
              clear hown4 hgrow hat4
              refine hK.out _ _ ?_ (fun hHeld => ?_)
              · trivial
              clear hK K
              try simp only [Act.put, List.getElem_toArray, List.getElem_cons_zero, List.getElem_cons_succ, List.setIfInBounds_toArray, List.set_cons_zero, List.set_cons_succ]
              refine' wpAnyH_take (i := 6) (v := _) rfl (by kernel_rfl) (by kernel_rfl) (by kernel_rfl) (fun _ _ _ h => h) (Or.inl ⟨by rfl, ?hyr5⟩) (by assumption) ?restr5
              case hyr5 => (intro w hSw; (try dsimp only at hSw); go_simp; try with_reducible rfl)
              try simp only [Act.put, List.getElem_toArray, List.getElem_cons_zero, List.getElem_cons_succ, List.setIfInBounds_toArray, List.set_cons_zero, List.set_cons_succ]
              refine wpAnyH_ready (rs := [7]) (by kernel_rfl) (by simp) ?_
              refine AllReadyH.cons (o := _) rfl (fun K hK => ?_) ?_
              · go_simp
                refine hK.out _ _ ?_ (fun hHeld => ?_)
                · trivial
                clear hK K
                try simp only [Act.put, List.getElem_toArray, List.getElem_cons_zero, List.getElem_cons_succ, List.setIfInBounds_toArray, List.set_cons_zero, List.set_cons_succ]
                refine wpAnyH_done (by kernel_rfl) ?_ _
                refine NoPanic.normal ?_
                clear e1 sa3 a3 af3 hHeld
                generalize hW : w4.setCell _ _ = W at *
                go_wp2
                go_roundw
                case rel => exact ⟨j + 1, g4, l + 1, c4, xs ++ [(a, b, s)], by omega, by go_num, by omega, SN.out.mono (by omega)⟩
                case measure => simp [intOf]; omega
              exact AllReadyH.nil
            exact AllReadyH.nil
          exact AllReadyH.nil
        exact AllReadyH.nil
      exact AllReadyH.nil
    · have hje : j = n := by omega
      subst hje
      go_wp2_with fail
      refine (c_pick g (k + 42 + 40 * j) 20 _ SR.out.pw.rd (by omega) (by omega)).mono ?_
      rintro e wd ⟨v, rfl, hv0, hv1, hRd, hgd⟩
      have S6 := Lib.hid (SR.out.grown hgd hRd)
      clear hgd hRd SR hlt
      by_cases hv0 : v = 0
      · subst hv0
        go_wp2_with fail
        refine (c_l91Word g (k + 42 + 40 * j + 1) _ S6.out.pw.rd (by omega)).mono ?_
        rintro e we ⟨x, rfl, hx0, hx1, hRe, hge⟩
        have S7 := Lib.hid (S6.out.grown hge hRe)
        clear hge hRe S6
        obtain ⟨⟨v0, v1, v2, v3⟩, vf0, vf1, vf2, vf3⟩ := S7.out.pw.var.get4
        obtain ⟨⟨x0, x1, x2, x3⟩, xf0, xf1, xf2, xf3⟩ := S7.out.pw.res.get4
        have hql := S7.out.pw.var.lt
        have hwl := S7.out.pw.res.lt
        have hqg := S7.out.pw.qgt
        have hgg := S7.out.gt
        have hne := S7.out.ne
        have hqr : q ≠ w.heap.size := by omega
        have GF := Lib.hid S7.out.pw.own
        have LEN := Lib.hid S7.out.len
        have hgw2 := S7.out.pw.gw
        have hcc : (0 : Int) ≤ (c : Int) := by omega
        go_wp2
        refine bodyPost_ret (v := .agg #[.int .i64 x, .int .i64 9, .int .i64 tag, .slice (some ⟨gr, 0, none⟩) l c]) (by simp [results, Try.results29, go_sem, x0, x1, x2, x3, v0, v1, v2, v3, hql, hqr, hwl]) rfl ⟨x, 9, tag, _, xs, rfl, by omega, by omega, by omega, by omega, by omega, by omega, by have := LEN.out; omega, S7.out.good, ?_, ?_, ?_⟩
        · (repeat' (first | (with_reducible exact S7.out.row) | (with_reducible refine OG.far ?_ ?_ _) | omega | (simp; done) | (simp; omega)))
        · (repeat' (first | with_reducible exact S7.out.pw.rd.mono (by omega) | with_reducible refine Rd.mono S7.out.pw.rd.mono (by omega) ?_ | with_reducible refine Rd.setCell ?_ ?_ _ | with_reducible refine Rd.alloc ?_ _ | with_reducible refine Rd.drewN ?_ _ | with_reducible refine Rd.drew ?_ | omega | (simp; done) | (simp; omega)))
        · (repeat' (first | with_reducible exact GF.out | with_reducible exact only_refl _ _ | with_reducible refine only_setCell ?_ (.inr ?_) _ | with_reducible refine only_alloc ?_ _ | with_reducible refine only_drewN ?_ _ | with_reducible refine only_drew ?_ | omega | (simp; done) | (simp; omega)))
      · have hvb0 : (v == 0) = false := by simp; omega
        by_cases hv1 : v = 1
        · subst hv1
          go_wp2_with fail
          refine (c_l91Word g (k + 42 + 40 * j + 1) _ S6.out.pw.rd (by omega)).mono ?_
          rintro e we ⟨x, rfl, hx0, hx1, hRe, hge⟩
          have S7 := Lib.hid (S6.out.grown hge hRe)
          clear hge hRe S6
          obtain ⟨⟨v0, v1, v2, v3⟩, vf0, vf1, vf2, vf3⟩ := S7.out.pw.var.get4
          obtain ⟨⟨x0, x1, x2, x3⟩, xf0, xf1, xf2, xf3⟩ := S7.out.pw.res.get4
          have hql := S7.out.pw.var.lt
          have hwl := S7.out.pw.res.lt
          have hqg := S7.out.pw.qgt
          have hgg := S7.out.gt
          have hne := S7.out.ne
          have hqr : q ≠ w.heap.size := by omega
          have GF := Lib.hid S7.out.pw.own
          have LEN := Lib.hid S7.out.len
          have hgw2 := S7.out.pw.gw
          have hcc : (0 : Int) ≤ (c : Int) := by omega
          go_wp2
          refine bodyPost_ret (v := .agg #[.int .i64 7, .int .i64 x, .int .i64 tag, .slice (some ⟨gr, 0, none⟩) l c]) (by simp [results, Try.results29, go_sem, x0, x1, x2, x3, v0, v1, v2, v3, hql, hqr, hwl]) rfl ⟨7, x, tag, _, xs, rfl, by omega, by omega, by omega, by omega, by omega, by omega, by have := LEN.out; omega, S7.out.good, ?_, ?_, ?_⟩
          · (repeat' (first | (with_reducible exact S7.out.row) | (with_reducible refine OG.far ?_ ?_ _) | omega | (simp; done) | (simp; omega)))
          · (repeat' (first | with_reducible exact S7.out.pw.rd.mono (by omega) | with_reducible refine Rd.mono S7.out.pw.rd.mono (by omega) ?_ | with_reducible refine Rd.setCell ?_ ?_ _ | with_reducible refine Rd.alloc ?_ _ | with_reducible refine Rd.drewN ?_ _ | with_reducible refine Rd.drew ?_ | omega | (simp; done) | (simp; omega)))
          · (repeat' (first | with_reducible exact GF.out | with_reducible exact only_refl _ _ | with_reducible refine only_setCell ?_ (.inr ?_) _ | with_reducible refine only_alloc ?_ _ | with_reducible refine only_drewN ?_ _ | with_reducible refine only_drew ?_ | omega | (simp; done) | (simp; omega)))
        · have hvb1 : (v == 1) = false := by simp; omega
          by_cases hv2 : v = 2
          · subst hv2
            go_wp2_with fail
            refine (c_l91Long g (k + 42 + 40 * j + 1) _ S6.out.pw.rd (by omega)).mono ?_
            rintro e we ⟨x, rfl, hx0, hx1, hRe, hge⟩
            have S7 := Lib.hid (S6.out.grown hge hRe)
            clear hge hRe S6
            obtain ⟨⟨v0, v1, v2, v3⟩, vf0, vf1, vf2, vf3⟩ := S7.out.pw.var.get4
            obtain ⟨⟨x0, x1, x2, x3⟩, xf0, xf1, xf2, xf3⟩ := S7.out.pw.res.get4
            have hql := S7.out.pw.var.lt
            have hwl := S7.out.pw.res.lt
            have hqg := S7.out.pw.qgt
            have hgg := S7.out.gt
            have hne := S7.out.ne
            have hqr : q ≠ w.heap.size := by omega
            have GF := Lib.hid S7.out.pw.own
            have LEN := Lib.hid S7.out.len
            have hgw2 := S7.out.pw.gw
            have hcc : (0 : Int) ≤ (c : Int) := by omega
            go_wp2
            refine bodyPost_ret (v := .agg #[.int .i64 7, .int .i64 9, .int .i64 x, .slice (some ⟨gr, 0, none⟩) l c]) (by simp [results, Try.results29, go_sem, x0, x1, x2, x3, v0, v1, v2, v3, hql, hqr, hwl]) rfl ⟨7, 9, x, _, xs, rfl, by omega, by omega, by omega, by omega, by omega, by omega, by have := LEN.out; omega, S7.out.good, ?_, ?_, ?_⟩
            · (repeat' (first | (with_reducible exact S7.out.row) | (with_reducible refine OG.far ?_ ?_ _) | omega | (simp; done) | (simp; omega)))
            · (repeat' (first | with_reducible exact S7.out.pw.rd.mono (by omega) | with_reducible refine Rd.mono S7.out.pw.rd.mono (by omega) ?_ | with_reducible refine Rd.setCell ?_ ?_ _ | with_reducible refine Rd.alloc ?_ _ | with_reducible refine Rd.drewN ?_ _ | with_reducible refine Rd.drew ?_ | omega | (simp; done) | (simp; omega)))
            · (repeat' (first | with_reducible exact GF.out | with_reducible exact only_refl _ _ | with_reducible refine only_setCell ?_ (.inr ?_) _ | with_reducible refine only_alloc ?_ _ | with_reducible refine only_drewN ?_ _ | with_reducible refine only_drew ?_ | omega | (simp; done) | (simp; omega)))
          · have hvb2 : (v == 2) = false := by simp; omega
            by_cases hv3 : v = 3
            · subst hv3
              obtain ⟨⟨v0, v1, v2, v3⟩, vf0, vf1, vf2, vf3⟩ := S6.out.pw.var.get4
              obtain ⟨⟨x0, x1, x2, x3⟩, xf0, xf1, xf2, xf3⟩ := S6.out.pw.res.get4
              have hql := S6.out.pw.var.lt
              have hwl := S6.out.pw.res.lt
              have hqg := S6.out.pw.qgt
              have hgg := S6.out.gt
              have hne := S6.out.ne
              have hqr : q ≠ w.heap.size := by omega
              have GF := Lib.hid S6.out.pw.own
              have LEN := Lib.hid S6.out.len
              have hgw2 := S6.out.pw.gw
              have hcc : (0 : Int) ≤ (c : Int) := by omega
              go_wp2
              refine bodyPost_ret (v := .agg #[.int .i64 7, .int .i64 9, .int .i64 tag, .slice (some ⟨gr, 0, none⟩) 0 c]) (by simp [results, Try.results29, go_sem, x0, x1, x2, x3, v0, v1, v2, v3, hql, hqr, hwl]) rfl ⟨7, 9, tag, _, [], rfl, by omega, by omega, by omega, by omega, by omega, by omega, by simp, ChGood.nil, ?_, ?_, ?_⟩
              · (repeat' (first | (with_reducible exact (OG.none_ S6.out.row S6.out.len)) | (with_reducible refine OG.far ?_ ?_ _) | omega | (simp; done) | (simp; omega)))
              · (repeat' (first | with_reducible exact S6.out.pw.rd.mono (by omega) | with_reducible refine Rd.mono S6.out.pw.rd.mono (by omega) ?_ | with_reducible refine Rd.setCell ?_ ?_ _ | with_reducible refine Rd.alloc ?_ _ | with_reducible refine Rd.drewN ?_ _ | with_reducible refine Rd.drew ?_ | omega | (simp; done) | (simp; omega)))
              · (repeat' (first | with_reducible exact GF.out | with_reducible exact only_refl _ _ | with_reducible refine only_setCell ?_ (.inr ?_) _ | with_reducible refine only_alloc ?_ _ | with_reducible refine only_drewN ?_ _ | with_reducible refine only_drew ?_ | omega | (simp; done) | (simp; omega)))
            · have hvb3 : (v == 3) = false := by simp; omega
              by_cases hv4 : v = 4
              · subst hv4
                obtain ⟨⟨v0, v1, v2, v3⟩, vf0, vf1, vf2, vf3⟩ := S6.out.pw.var.get4
                obtain ⟨⟨x0, x1, x2, x3⟩, xf0, xf1, xf2, xf3⟩ := S6.out.pw.res.get4
                have hql := S6.out.pw.var.lt
                have hwl := S6.out.pw.res.lt
                have hqg := S6.out.pw.qgt
                have hgg := S6.out.gt
                have hne := S6.out.ne
                have hqr : q ≠ w.heap.size := by omega
                have GF := Lib.hid S6.out.pw.own
                have LEN := Lib.hid S6.out.len
                have hgw2 := S6.out.pw.gw
                have hcc : (0 : Int) ≤ (c : Int) := by omega
                have NW := Lib.hid (OG.newsOf S6.out.row S6.out.len)
                go_wp2_with fail
                refine wp_region_noPanic ?_
                refine wp_region_held_drew (S := fun _ => True) (by kernel_rfl) ?_ (fun hHeld => ?_)
                · trivial
                refine' wpAnyH_take (i := 0) (v := _) rfl (by kernel_rfl) (by kernel_rfl) (by kernel_rfl) (fun _ _ _ h => h) (Or.inl ⟨by rfl, ?hys1⟩) (by assumption) ?rests1
                case hys1 => (intro w hSw; (try dsimp only at hSw); go_simp; try with_reducible rfl)
                try simp only [Act.put, List.getElem_toArray, List.getElem_cons_zero, List.getElem_cons_succ, List.setIfInBounds_toArray, List.set_cons_zero, List.set_cons_succ]
                refine' wpAnyH_take (i := 2) (v := _) rfl (by kernel_rfl) (by kernel_rfl) (by kernel_rfl) (fun _ _ _ h => h) (Or.inl ⟨by rfl, ?hys2⟩) (by assumption) ?rests2
                case hys2 => (intro w hSw; (try dsimp only at hSw); go_simp; try with_reducible rfl)
                try simp only [Act.put, List.getElem_toArray, List.getElem_cons_zero, List.getElem_cons_succ, List.setIfInBounds_toArray, List.set_cons_zero, List.set_cons_succ]
                refine' wpAnyH_take (i := 5) (v := _) rfl (by kernel_rfl) (by kernel_rfl) (by kernel_rfl) (fun _ _ _ h => h) (Or.inl ⟨by rfl, ?hys3⟩) (by assumption) ?rests3
                case hys3 => (intro w hSw; (try dsimp only at hSw); go_simp; try with_reducible rfl)
                try simp only [Act.put, List.getElem_toArray, List.getElem_cons_zero, List.getElem_cons_succ, List.setIfInBounds_toArray, List.set_cons_zero, List.set_cons_succ]
                refine wpAnyH_ready (rs := [1, 3, 6]) (by kernel_rfl) (by simp) ?_
                refine AllReadyH.cons (o := _) rfl (fun K hK => ?_) ?_
                · go_simp
                  refine hK.out _ _ ?_ (fun hHeld => ?_)
                  · trivial
                  clear hK K
                  try simp only [Act.put, List.getElem_toArray, List.getElem_cons_zero, List.getElem_cons_succ, List.setIfInBounds_toArray, List.set_cons_zero, List.set_cons_succ]
                  refine wpAnyH_ready (rs := [3, 6]) (by kernel_rfl) (by simp) ?_
                  refine AllReadyH.cons (o := _) rfl (fun K hK => ?_) ?_
                  · go_simp
                    refine hK.out _ _ ?_ (fun hHeld => ?_)
                    · trivial
                    clear hK K
                    try simp only [Act.put, List.getElem_toArray, List.getElem_cons_zero, List.getElem_cons_succ, List.setIfInBounds_toArray, List.set_cons_zero, List.set_cons_succ]
                    refine wpAnyH_ready (rs := [4, 6]) (by kernel_rfl) (by simp) ?_
                    refine AllReadyH.cons (o := _) rfl (fun K hK => ?_) ?_
                    · refine step_append_keep _ (by rfl) _ _ _ (by rfl) (w.heap.size + 1) 41 i0 _ 3 32 Try.underlying23 hi hz0 hz1 hz2 rfl (by decide) gr l c (flatG xs) (by rfl) ?c0 ⟨gr, 0, none⟩ l c (flatG xs) (by rfl) ?c7 ?c1 ?c2 ?c3 ?c4 ?c5 wd.heap.size ?c6 ?_
                      case c0 => exact OG.row (by (repeat' (first | (with_reducible exact S6.out.row) | with_reducible refine OG.alloc ?_ _ | with_reducible refine OG.drew ?_ | with_reducible refine OG.drewN ?_ _ | with_reducible refine OG.old ?_ ?_ _ | omega | (simp; done) | (simp; omega)))) S6.out.len
                      case c7 => rw [flatG_length, S6.out.len]
                      case c1 => exact NW.out
                      case c2 => exact flatG_one xs
                      case c3 => unfold maxLen; omega
                      case c4 => omega
                      case c5 => (first | omega | (simp; done) | (simp; omega))
                      case c6 => (first | omega | (simp; done) | (simp; omega))
                      intro g4 c4 w4 hown4 hold4 hgrow hat4 hl4
                      have hat5 : g4 ≠ q ∧ w.heap.size < g4 := by
                        have h1 := S6.out.ne
                        have h2 := S6.out.gt
                        have h3 := S6.out.pw.var.lt
                        have h4 := S6.out.pw.res.lt
                        rcases hat4 with h | h <;> omega
                      have WN := Lib.hid (PW.turn (by first | exact S6.out.pw | exact S6.out.pw.drew) hgrow S6.out.gt S6.out.ne)
                      have n3 : w4.cell? ⟨q, 3, none⟩ = some (.slice (some ⟨gr, 0, none⟩) l c) := WN.out.var.cell 3
                      have hq4 := WN.out.var.lt
                      have OLD := Lib.hid (OG.of hold4 S6.out.len)
                      have OWN := Lib.hid (OG.join (xs := xs) (ys := xs) hown4 S6.out.len S6.out.len)
                      have hw4l := WN.out.res.lt
                      clear hown4 hold4 hgrow hat4
                      refine hK.out _ _ ?_ (fun hHeld => ?_)
                      · trivial
                      clear hK K
                      try simp only [Act.put, List.getElem_toArray, List.getElem_cons_zero, List.getElem_cons_succ, List.setIfInBounds_toArray, List.set_cons_zero, List.set_cons_succ]
                      refine wpAnyH_ready (rs := [6]) (by kernel_rfl) (by simp) ?_
                      refine AllReadyH.cons (o := _) rfl (fun K hK => ?_) ?_
                      · go_simp
                        refine hK.out _ _ ?_ (fun hHeld => ?_)
                        · trivial
                        clear hK K
                        try simp only [Act.put, List.getElem_toArray, List.getElem_cons_zero, List.getElem_cons_succ, List.setIfInBounds_toArray, List.set_cons_zero, List.set_cons_succ]
                        refine wpAnyH_ready (rs := [7]) (by kernel_rfl) (by simp) ?_
                        refine AllReadyH.cons (o := _) rfl (fun K hK => ?_) ?_
                        · refine step_append_keep _ (by rfl) _ _ _ (by rfl) (w.heap.size + 1) 41 i0 _ 3 32 Try.underlying23 hi hz0 hz1 hz2 rfl (by decide) g4 (l + l) c4 (flatG (xs ++ xs)) (by rfl) ?c0 ⟨gr, 0, none⟩ l c (flatG xs) (by rfl) ?c7 ?c1 ?c2 ?c3 ?c4 ?c5 w4.heap.size ?c6 ?_
                          case c0 => exact OG.row (by (repeat' (first | (with_reducible exact OWN.out) | with_reducible refine OG.alloc ?_ _ | with_reducible refine OG.drew ?_ | with_reducible refine OG.drewN ?_ _ | with_reducible refine OG.old ?_ ?_ _ | omega | (simp; done) | (simp; omega)))) (by rw [List.length_append, S6.out.len])
                          case c7 => rw [flatG_length, S6.out.len]
                          case c1 => exact (OG.newsOf OLD.out S6.out.len)
                          case c2 => exact flatG_one xs
                          case c3 => unfold maxLen; omega
                          case c4 => omega
                          case c5 => (first | omega | (simp; done) | (simp; omega))
                          case c6 => (first | omega | (simp; done) | (simp; omega))
                          intro g5 c5 w5 hown5 hold5 hgrow5 hat5b hl5
                          have hat6 : g5 ≠ q ∧ w.heap.size < g5 := by
                            rcases hat5b with h | h <;> omega
                          have WM := Lib.hid (PW.turn (by first | exact WN.out | exact WN.out.drew) hgrow5 hat5.2 hat5.1)
                          have SN := Lib.hid (PSt.of WM.out (OG.join (xs := xs ++ xs) (ys := xs) hown5 (by rw [List.length_append, S6.out.len]) S6.out.len) (by rw [List.length_append, List.length_append, S6.out.len]) hat6.1 hat6.2 hl5 (ChGood.app (ChGood.app S6.out.good S6.out.good) S6.out.good))
                          have m3 : w5.cell? ⟨q, 3, none⟩ = some (.slice (some ⟨gr, 0, none⟩) l c) := WM.out.var.cell 3
                          have mf3 := WM.out.var.frozen 3
                          have hq5 := WM.out.var.lt
                          clear hown5 hold5 hgrow5 hat5b
                          refine hK.out _ _ ?_ (fun hHeld => ?_)
                          · trivial
                          clear hK K
                          try simp only [Act.put, List.getElem_toArray, List.getElem_cons_zero, List.getElem_cons_succ, List.setIfInBounds_toArray, List.set_cons_zero, List.set_cons_succ]
                          refine' wpAnyH_take (i := 8) (v := _) rfl (by kernel_rfl) (by kernel_rfl) (by kernel_rfl) (fun _ _ _ h => h) (Or.inl ⟨by rfl, ?hys4⟩) (by assumption) ?rests4
                          case hys4 => (intro w hSw; (try dsimp only at hSw); go_simp; try with_reducible rfl)
                          try simp only [Act.put, List.getElem_toArray, List.getElem_cons_zero, List.getElem_cons_succ, List.setIfInBounds_toArray, List.set_cons_zero, List.set_cons_succ]
                          refine wpAnyH_ready (rs := [9]) (by kernel_rfl) (by simp) ?_
                          refine AllReadyH.cons (o := _) rfl (fun K hK => ?_) ?_
                          · go_simp
                            refine hK.out _ _ ?_ (fun hHeld => ?_)
                            · trivial
                            clear hK K
                            try simp only [Act.put, List.getElem_toArray, List.getElem_cons_zero, List.getElem_cons_succ, List.setIfInBounds_toArray, List.set_cons_zero, List.set_cons_succ]
                            refine wpAnyH_done (by kernel_rfl) ?_ _
                            refine NoPanic.normal ?_
                            clear v0 v1 v2 v3 vf0 vf1 vf2 vf3 x0 x1 x2 x3 xf0 xf1 xf2 xf3 hql hwl hqg hgg hne hqr GF LEN hgw2 hcc n3 m3 mf3 hHeld
                            generalize hW : w5.setCell _ _ = W at *
                            obtain ⟨⟨v0, v1, v2, v3⟩, vf0, vf1, vf2, vf3⟩ := SN.out.pw.var.get4
                            obtain ⟨⟨x0, x1, x2, x3⟩, xf0, xf1, xf2, xf3⟩ := SN.out.pw.res.get4
                            have hql := SN.out.pw.var.lt
                            have hwl := SN.out.pw.res.lt
                            have hqg := SN.out.pw.qgt
                            have hgg := SN.out.gt
                            have hne := SN.out.ne
                            have hqr : q ≠ w.heap.size := by omega
                            have GF := Lib.hid SN.out.pw.own
                            have LEN := Lib.hid SN.out.len
                            have hgw2 := SN.out.pw.gw
                            have hcc : (0 : Int) ≤ (c5 : Int) := by omega
                            go_wp2
                            refine bodyPost_ret (v := .agg #[.int .i64 7, .int .i64 9, .int .i64 tag, .slice (some ⟨g5, 0, none⟩) (l + l + l) c5]) (by simp [results, Try.results29, go_sem, x0, x1, x2, x3, v0, v1, v2, v3, hql, hqr, hwl]) rfl ⟨7, 9, tag, _, _, rfl, by omega, by omega, by omega, by omega, by omega, by omega, by have := LEN.out; omega, SN.out.good, ?_, ?_, ?_⟩
                            · (repeat' (first | (with_reducible exact SN.out.row) | (with_reducible refine OG.far ?_ ?_ _) | omega | (simp; done) | (simp; omega)))
                            · (repeat' (first | with_reducible exact SN.out.pw.rd.mono (by omega) | with_reducible refine Rd.mono SN.out.pw.rd.mono (by omega) ?_ | with_reducible refine Rd.setCell ?_ ?_ _ | with_reducible refine Rd.alloc ?_ _ | with_reducible refine Rd.drewN ?_ _ | with_reducible refine Rd.drew ?_ | omega | (simp; done) | (simp; omega)))
                            · (repeat' (first | with_reducible exact GF.out | with_reducible exact only_refl _ _ | with_reducible refine only_setCell ?_ (.inr ?_) _ | with_reducible refine only_alloc ?_ _ | with_reducible refine only_drewN ?_ _ | with_reducible refine only_drew ?_ | omega | (simp; done) | (simp; omega)))
                          exact AllReadyH.nil
                        exact AllReadyH.nil
                      exact AllReadyH.nil
                    refine AllReadyH.cons (o := _) rfl (fun K hK => ?_) ?_
                    · go_simp
                      refine hK.out _ _ ?_ (fun hHeld => ?_)
                      · trivial
                      clear hK K
                      try simp only [Act.put, List.getElem_toArray, List.getElem_cons_zero, List.getElem_cons_succ, List.setIfInBounds_toArray, List.set_cons_zero, List.set_cons_succ]
                      refine wpAnyH_ready (rs := [4]) (by kernel_rfl) (by simp) ?_
                      refine AllReadyH.cons (o := _) rfl (fun K hK => ?_) ?_
                      · refine step_append_keep _ (by rfl) _ _ _ (by rfl) (w.heap.size + 1) 41 i0 _ 3 32 Try.underlying23 hi hz0 hz1 hz2 rfl (by decide) gr l c (flatG xs) (by rfl) ?c0 ⟨gr, 0, none⟩ l c (flatG xs) (by rfl) ?c7 ?c1 ?c2 ?c3 ?c4 ?c5 wd.heap.size ?c6 ?_
                        case c0 => exact OG.row (by (repeat' (first | (with_reducible exact S6.out.row) | with_reducible refine OG.alloc ?_ _ | with_reducible refine OG.drew ?_ | with_reducible refine OG.drewN ?_ _ | with_reducible refine OG.old ?_ ?_ _ | omega | (simp; done) | (simp; omega)))) S6.out.len
                        case c7 => rw [flatG_length, S6.out.len]
                        case c1 => exact NW.out
                        case c2 => exact flatG_one xs
                        case c3 => unfold maxLen; omega
                        case c4 => omega
                        case c5 => (first | omega | (simp; done) | (simp; omega))
                        case c6 => (first | omega | (simp; done) | (simp; omega))
                        intro g4 c4 w4 hown4 hold4 hgrow hat4 hl4
                        have hat5 : g4 ≠ q ∧ w.heap.size < g4 := by
                          have h1 := S6.out.ne
                          have h2 := S6.out.gt
                          have h3 := S6.out.pw.var.lt
                          have h4 := S6.out.pw.res.lt
                          rcases hat4 with h | h <;> omega
                        have WN := Lib.hid (PW.turn (by first | exact S6.out.pw | exact S6.out.pw.drew) hgrow S6.out.gt S6.out.ne)
                        have n3 : w4.cell? ⟨q, 3, none⟩ = some (.slice (some ⟨gr, 0, none⟩) l c) := WN.out.var.cell 3
                        have hq4 := WN.out.var.lt
                        have OLD := Lib.hid (OG.of hold4 S6.out.len)
                        have OWN := Lib.hid (OG.join (xs := xs) (ys := xs) hown4 S6.out.len S6.out.len)
                        have hw4l := WN.out.res.lt
                        clear hown4 hold4 hgrow hat4
                        refine hK.out _ _ ?_ (fun hHeld => ?_)
                        · trivial
                        clear hK K
                        try simp only [Act.put, List.getElem_toArray, List.getElem_cons_zero, List.getElem_cons_succ, List.setIfInBounds_toArray, List.set_cons_zero, List.set_cons_succ]
                        refine wpAnyH_ready (rs := [7]) (by kernel_rfl) (by simp) ?_
                        refine AllReadyH.cons (o := _) rfl (fun K hK => ?_) ?_
                        · refine step_append_keep _ (by rfl) _ _ _ (by rfl) (w.heap.size + 1) 41 i0 _ 3 32 Try.underlying23 hi hz0 hz1 hz2 rfl (by decide) g4 (l + l) c4 (flatG (xs ++ xs)) (by rfl) ?c0 ⟨gr, 0, none⟩ l c (flatG xs) (by rfl) ?c7 ?c1 ?c2 ?c3 ?c4 ?c5 w4.heap.size ?c6 ?_
                          case c0 => exact OG.row (by (repeat' (first | (with_reducible exact OWN.out) | with_reducible refine OG.alloc ?_ _ | with_reducible refine OG.drew ?_ | with_reducible refine OG.drewN ?_ _ | with_reducible refine OG.old ?_ ?_ _ | omega | (simp; done) | (simp; omega)))) (by rw [List.length_append, S6.out.len])
                          case c7 => rw [flatG_length, S6.out.len]
                          case c1 => exact (OG.newsOf OLD.out S6.out.len)
                          case c2 => exact flatG_one xs
                          case c3 => unfold maxLen; omega
                          case c4 => omega
                          case c5 => (first | omega | (simp; done) | (simp; omega))
                          case c6 => (first | omega | (simp; done) | (simp; omega))
                          intro g5 c5 w5 hown5 hold5 hgrow5 hat5b hl5
                          have hat6 : g5 ≠ q ∧ w.heap.size < g5 := by
                            rcases hat5b with h | h <;> omega
                          have WM := Lib.hid (PW.turn (by first | exact WN.out | exact WN.out.drew) hgrow5 hat5.2 hat5.1)
                          have SN := Lib.hid (PSt.of WM.out (OG.join (xs := xs ++ xs) (ys := xs) hown5 (by rw [List.length_append, S6.out.len]) S6.out.len) (by rw [List.length_append, List.length_append, S6.out.len]) hat6.1 hat6.2 hl5 (ChGood.app (ChGood.app S6.out.good S6.out.good) S6.out.good))
                          have m3 : w5.cell? ⟨q, 3, none⟩ = some (.slice (some ⟨gr, 0, none⟩) l c) := WM.out.var.cell 3
                          have mf3 := WM.out.var.frozen 3
                          have hq5 := WM.out.var.lt
                          clear hown5 hold5 hgrow5 hat5b
                          refine hK.out _ _ ?_ (fun hHeld => ?_)
                          · trivial
                          clear hK K
                          try simp only [Act.put, List.getElem_toArray, List.getElem_cons_zero, List.getElem_cons_succ, List.setIfInBounds_toArray, List.set_cons_zero, List.set_cons_succ]
                          refine' wpAnyH_take (i := 8) (v := _) rfl (by kernel_rfl) (by kernel_rfl) (by kernel_rfl) (fun _ _ _ h => h) (Or.inl ⟨by rfl, ?hys5⟩) (by assumption) ?rests5
                          case hys5 => (intro w hSw; (try dsimp only at hSw); go_simp; try with_reducible rfl)
                          try simp only [Act.put, List.getElem_toArray, List.getElem_cons_zero, List.getElem_cons_succ, List.setIfInBounds_toArray, List.set_cons_zero, List.set_cons_succ]
                          refine wpAnyH_ready (rs := [9]) (by kernel_rfl) (by simp) ?_
                          refine AllReadyH.cons (o := _) rfl (fun K hK => ?_) ?_
                          · go_simp
                            refine hK.out _ _ ?_ (fun hHeld => ?_)
                            · trivial
                            clear hK K
                            try simp only [Act.put, List.getElem_toArray, List.getElem_cons_zero, List.getElem_cons_succ, List.setIfInBounds_toArray, List.set_cons_zero, List.set_cons_succ]
                            refine wpAnyH_done (by kernel_rfl) ?_ _
                            refine NoPanic.normal ?_
                            clear v0 v1 v2 v3 vf0 vf1 vf2 vf3 x0 x1 x2 x3 xf0 xf1 xf2 xf3 hql hwl hqg hgg hne hqr GF LEN hgw2 hcc n3 m3 mf3 hHeld
                            generalize hW : w5.setCell _ _ = W at *
                            obtain ⟨⟨v0, v1, v2, v3⟩, vf0, vf1, vf2, vf3⟩ := SN.out.pw.var.get4
                            obtain ⟨⟨x0, x1, x2, x3⟩, xf0, xf1, xf2, xf3⟩ := SN.out.pw.res.get4
                            have hql := SN.out.pw.var.lt
                            have hwl := SN.out.pw.res.lt
                            have hqg := SN.out.pw.qgt
                            have hgg := SN.out.gt
                            have hne := SN.out.ne
                            have hqr : q ≠ w.heap.size := by omega
                            have GF := Lib.hid SN.out.pw.own
                            have LEN := Lib.hid SN.out.len
                            have hgw2 := SN.out.pw.gw
                            have hcc : (0 : Int) ≤ (c5 : Int) := by omega
                            go_wp2
                            refine bodyPost_ret (v := .agg #[.int .i64 7, .int .i64 9, .int .i64 tag, .slice (some ⟨g5, 0, none⟩) (l + l + l) c5]) (by simp [results, Try.results29, go_sem, x0, x1, x2, x3, v0, v1, v2, v3, hql, hqr, hwl]) rfl ⟨7, 9, tag, _, _, rfl, by omega, by omega, by omega, by omega, by omega, by omega, by have := LEN.out; omega, SN.out.good, ?_, ?_, ?_⟩
                            · (repeat' (first | (with_reducible exact SN.out.row) | (with_reducible refine OG.far ?_ ?_ _) | omega | (simp; done) | (simp; omega)))
                            · (repeat' (first | with_reducible exact SN.out.pw.rd.mono (by omega) | with_reducible refine Rd.mono SN.out.pw.rd.mono (by omega) ?_ | with_reducible refine Rd.setCell ?_ ?_ _ | with_reducible refine Rd.alloc ?_ _ | with_reducible refine Rd.drewN ?_ _ | with_reducible refine Rd.drew ?_ | omega | (simp; done) | (simp; omega)))
                            · (repeat' (first | with_reducible exact GF.out | with_reducible exact only_refl _ _ | with_reducible refine only_setCell ?_ (.inr ?_) _ | with_reducible refine only_alloc ?_ _ | with_reducible refine only_drewN ?_ _ | with_reducible refine only_drew ?_ | omega | (simp; done) | (simp; omega)))
                          exact AllReadyH.nil
                        exact AllReadyH.nil
                      exact AllReadyH.nil
                    exact AllReadyH.nil
                  refine AllReadyH.cons (o := _) rfl (fun K hK => ?_) ?_
                  · go_simp
                    refine hK.out _ _ ?_ (fun hHeld => ?_)
                    · trivial
                    clear hK K
                    try simp only [Act.put, List.getElem_toArray, List.getElem_cons_zero, List.getElem_cons_succ, List.setIfInBounds_toArray, List.set_cons_zero, List.set_cons_succ]
                    refine wpAnyH_ready (rs := [3]) (by kernel_rfl) (by simp) ?_
                    refine AllReadyH.cons (o := _) rfl (fun K hK => ?_) ?_
                    · go_simp
                      refine hK.out _ _ ?_ (fun hHeld => ?_)
                      · trivial
                      clear hK K
                      try simp only [Act.put, List.getElem_toArray, List.getElem_cons_zero, List.getElem_cons_succ, List.setIfInBounds_toArray, List.set_cons_zero, List.set_cons_succ]
                      refine wpAnyH_ready (rs := [4]) (by kernel_rfl) (by simp) ?_
                      refine AllReadyH.cons (o := _) rfl (fun K hK => ?_) ?_
                      · refine step_append_keep _ (by rfl) _ _ _ (by rfl) (w.heap.size + 1) 41 i0 _ 3 32 Try.underlying23 hi hz0 hz1 hz2 rfl (by decide) gr l c (flatG xs) (by rfl) ?c0 ⟨gr, 0, none⟩ l c (flatG xs) (by rfl) ?c7 ?c1 ?c2 ?c3 ?c4 ?c5 wd.heap.size ?c6 ?_
                        case c0 => exact OG.row (by (repeat' (first | (with_reducible exact S6.out.row) | with_reducible refine OG.alloc ?_ _ | with_reducible refine OG.drew ?_ | with_reducible refine OG.drewN ?_ _ | with_reducible refine OG.old ?_ ?_ _ | omega | (simp; done) | (simp; omega)))) S6.out.len
                        case c7 => rw [flatG_length, S6.out.len]
                        case c1 => exact NW.out
                        case c2 => exact flatG_one xs
                        case c3 => unfold maxLen; omega
                        case c4 => omega
                        case c5 => (first | omega | (simp; done) | (simp; omega))
                        case c6 => (first | omega | (simp; done) | (simp; omega))
                        intro g4 c4 w4 hown4 hold4 hgrow hat4 hl4
                        have hat5 : g4 ≠ q ∧ w.heap.size < g4 := by
                          have h1 := S6.out.ne
                          have h2 := S6.out.gt
                          have h3 := S6.out.pw.var.lt
                          have h4 := S6.out.pw.res.lt
                          rcases hat4 with h | h <;> omega
                        have WN := Lib.hid (PW.turn (by first | exact S6.out.pw | exact S6.out.pw.drew) hgrow S6.out.gt S6.out.ne)
                        have n3 : w4.cell? ⟨q, 3, none⟩ = some (.slice (some ⟨gr, 0, none⟩) l c) := WN.out.var.cell 3
                        have hq4 := WN.out.var.lt
                        have OLD := Lib.hid (OG.of hold4 S6.out.len)
                        have OWN := Lib.hid (OG.join (xs := xs) (ys := xs) hown4 S6.out.len S6.out.len)
                        have hw4l := WN.out.res.lt
                        clear hown4 hold4 hgrow hat4
                        refine hK.out _ _ ?_ (fun hHeld => ?_)
                        · trivial
                        clear hK K
                        try simp only [Act.put, List.getElem_toArray, List.getElem_cons_zero, List.getElem_cons_succ, List.setIfInBounds_toArray, List.set_cons_zero, List.set_cons_succ]
                        refine wpAnyH_ready (rs := [7]) (by kernel_rfl) (by simp) ?_
                        refine AllReadyH.cons (o := _) rfl (fun K hK => ?_) ?_
                        · refine step_append_keep _ (by rfl) _ _ _ (by rfl) (w.heap.size + 1) 41 i0 _ 3 32 Try.underlying23 hi hz0 hz1 hz2 rfl (by decide) g4 (l + l) c4 (flatG (xs ++ xs)) (by rfl) ?c0 ⟨gr, 0, none⟩ l c (flatG xs) (by rfl) ?c7 ?c1 ?c2 ?c3 ?c4 ?c5 w4.heap.size ?c6 ?_
                          case c0 => exact OG.row (by (repeat' (first | (with_reducible exact OWN.out) | with_reducible refine OG.alloc ?_ _ | with_reducible refine OG.drew ?_ | with_reducible refine OG.drewN ?_ _ | with_reducible refine OG.old ?_ ?_ _ | omega | (simp; done) | (simp; omega)))) (by rw [List.length_append, S6.out.len])
                          case c7 => rw [flatG_length, S6.out.len]
                          case c1 => exact (OG.newsOf OLD.out S6.out.len)
                          case c2 => exact flatG_one xs
                          case c3 => unfold maxLen; omega
                          case c4 => omega
                          case c5 => (first | omega | (simp; done) | (simp; omega))
                          case c6 => (first | omega | (simp; done) | (simp; omega))
                          intro g5 c5 w5 hown5 hold5 hgrow5 hat5b hl5
                          have hat6 : g5 ≠ q ∧ w.heap.size < g5 := by
                            rcases hat5b with h | h <;> omega
                          have WM := Lib.hid (PW.turn (by first | exact WN.out | exact WN.out.drew) hgrow5 hat5.2 hat5.1)
                          have SN := Lib.hid (PSt.of WM.out (OG.join (xs := xs ++ xs) (ys := xs) hown5 (by rw [List.length_append, S6.out.len]) S6.out.len) (by rw [List.length_append, List.length_append, S6.out.len]) hat6.1 hat6.2 hl5 (ChGood.app (ChGood.app S6.out.good S6.out.good) S6.out.good))
                          have m3 : w5.cell? ⟨q, 3, none⟩ = some (.slice (some ⟨gr, 0, none⟩) l c) := WM.out.var.cell 3
                          have mf3 := WM.out.var.frozen 3
                          have hq5 := WM.out.var.lt
                          clear hown5 hold5 hgrow5 hat5b
                          refine hK.out _ _ ?_ (fun hHeld => ?_)
                          · trivial
                          clear hK K
                          try simp only [Act.put, List.getElem_toArray, List.getElem_cons_zero, List.getElem_cons_succ, List.setIfInBounds_toArray, List.set_cons_zero, List.set_cons_succ]
                          refine' wpAnyH_take (i := 8) (v := _) rfl (by kernel_rfl) (by kernel_rfl) (by kernel_rfl) (fun _ _ _ h => h) (Or.inl ⟨by rfl, ?hys6⟩) (by assumption) ?rests6
                          case hys6 => (intro w hSw; (try dsimp only at hSw); go_simp; try with_reducible rfl)
                          try simp only [Act.put, List.getElem_toArray, List.getElem_cons_zero, List.getElem_cons_succ, List.setIfInBounds_toArray, List.set_cons_zero, List.set_cons_succ]
                          refine wpAnyH_ready (rs := [9]) (by kernel_rfl) (by simp) ?_
                          refine AllReadyH.cons (o := _) rfl (fun K hK => ?_) ?_
                          · go_simp
                            refine hK.out _ _ ?_ (fun hHeld => ?_)
                            · trivial
                            clear hK K
                            try simp only [Act.put, List.getElem_toArray, List.getElem_cons_zero, List.getElem_cons_succ, List.setIfInBounds_toArray, List.set_cons_zero, List.set_cons_succ]
                            refine wpAnyH_done (by kernel_rfl) ?_ _
                            refine NoPanic.normal ?_
                            clear v0 v1 v2 v3 vf0 vf1 vf2 vf3 x0 x1 x2 x3 xf0 xf1 xf2 xf3 hql hwl hqg hgg hne hqr GF LEN hgw2 hcc n3 m3 mf3 hHeld
                            generalize hW : w5.setCell _ _ = W at *
                            obtain ⟨⟨v0, v1, v2, v3⟩, vf0, vf1, vf2, vf3⟩ := SN.out.pw.var.get4
                            obtain ⟨⟨x0, x1, x2, x3⟩, xf0, xf1, xf2, xf3⟩ := SN.out.pw.res.get4
                            have hql := SN.out.pw.var.lt
                            have hwl := SN.out.pw.res.lt
                            have hqg := SN.out.pw.qgt
                            have hgg := SN.out.gt
                            have hne := SN.out.ne
                            have hqr : q ≠ w.heap.size := by omega
                            have GF := Lib.hid SN.out.pw.own
                            have LEN := Lib.hid SN.out.len
                            have hgw2 := SN.out.pw.gw
                            have hcc : (0 : Int) ≤ (c5 : Int) := by omega
                            go_wp2
                            refine bodyPost_ret (v := .agg #[.int .i64 7, .int .i64 9, .int .i64 tag, .slice (some ⟨g5, 0, none⟩) (l + l + l) c5]) (by simp [results, Try.results29, go_sem, x0, x1, x2, x3, v0, v1, v2, v3, hql, hqr, hwl]) rfl ⟨7, 9, tag, _, _, rfl, by omega, by omega, by omega, by omega, by omega, by omega, by have := LEN.out; omega, SN.out.good, ?_, ?_, ?_⟩
                            · (repeat' (first | (with_reducible exact SN.out.row) | (with_reducible refine OG.far ?_ ?_ _) | omega | (simp; done) | (simp; omega)))
                            · (repeat' (first | with_reducible exact SN.out.pw.rd.mono (by omega) | with_reducible refine Rd.mono SN.out.pw.rd.mono (by omega) ?_ | with_reducible refine Rd.setCell ?_ ?_ _ | with_reducible refine Rd.alloc ?_ _ | with_reducible refine Rd.drewN ?_ _ | with_reducible refine Rd.drew ?_ | omega | (simp; done) | (simp; omega)))
                            · (repeat' (first | with_reducible exact GF.out | with_reducible exact only_refl _ _ | with_reducible refine only_setCell ?_ (.inr ?_) _ | with_reducible refine only_alloc ?_ _ | with_reducible refine only_drewN ?_ _ | with_reducible refine only_drew ?_ | omega | (simp; done) | (simp; omega)))
                          exact AllReadyH.nil
                        exact AllReadyH.nil
                      exact AllReadyH.nil
                    exact AllReadyH.nil
                  exact AllReadyH.nil
                refine AllReadyH.cons (o := _) rfl (fun K hK => ?_) ?_
                · go_simp
                  refine hK.out _ _ ?_ (fun hHeld => ?_)
                  · trivial
                  clear hK K
                  try simp only [Act.put, List.getElem_toArray, List.getElem_cons_zero, List.getElem_cons_succ, List.setIfInBounds_toArray, List.set_cons_zero, List.set_cons_succ]
                  refine wpAnyH_ready (rs := [1, 6]) (by kernel_rfl) (by simp) ?_
                  refine AllReadyH.cons (o := _) rfl (fun K hK => ?_) ?_
                  · go_simp
                    refine hK.out _ _ ?_ (fun hHeld => ?_)
                    · trivial
                    clear hK K
                    try simp only [Act.put, List.getElem_toArray, List.getElem_cons_zero, List.getElem_cons_succ, List.setIfInBounds_toArray, List.set_cons_zero, List.set_cons_succ]
                    refine wpAnyH_ready (rs := [4, 6]) (by kernel_rfl) (by simp) ?_
                    refine AllReadyH.cons (o := _) rfl (fun K hK => ?_) ?_
                    · refine step_append_keep _ (by rfl) _ _ _ (by rfl) (w.heap.size + 1) 41 i0 _ 3 32 Try.underlying23 hi hz0 hz1 hz2 rfl (by decide) gr l c (flatG xs) (by rfl) ?c0 ⟨gr, 0, none⟩ l c (flatG xs) (by rfl) ?c7 ?c1 ?c2 ?c3 ?c4 ?c5 wd.heap.size ?c6 ?_
                      case c0 => exact OG.row (by (repeat' (first | (with_reducible exact S6.out.row) | with_reducible refine OG.alloc ?_ _ | with_reducible refine OG.drew ?_ | with_reducible refine OG.drewN ?_ _ | with_reducible refine OG.old ?_ ?_ _ | omega | (simp; done) | (simp; omega)))) S6.out.len
                      case c7 => rw [flatG_length, S6.out.len]
                      case c1 => exact NW.out
                      case c2 => exact flatG_one xs
                      case c3 => unfold maxLen; omega
                      case c4 => omega
                      case c5 => (first | omega | (simp; done) | (simp; omega))
                      case c6 => (first | omega | (simp; done) | (simp; omega))
                      intro g4 c4 w4 hown4 hold4 hgrow hat4 hl4
                      have hat5 : g4 ≠ q ∧ w.heap.size < g4 := by
                        have h1 := S6.out.ne
                        have h2 := S6.out.gt
                        have h3 := S6.out.pw.var.lt
                        have h4 := S6.out.pw.res.lt
                        rcases hat4 with h | h <;> omega
                      have WN := Lib.hid (PW.turn (by first | exact S6.out.pw | exact S6.out.pw.drew) hgrow S6.out.gt S6.out.ne)
                      have n3 : w4.cell? ⟨q, 3, none⟩ = some (.slice (some ⟨gr, 0, none⟩) l c) := WN.out.var.cell 3
                      have hq4 := WN.out.var.lt
                      have OLD := Lib.hid (OG.of hold4 S6.out.len)
                      have OWN := Lib.hid (OG.join (xs := xs) (ys := xs) hown4 S6.out.len S6.out.len)
                      have hw4l := WN.out.res.lt
                      clear hown4 hold4 hgrow hat4
                      refine hK.out _ _ ?_ (fun hHeld => ?_)
                      · trivial
                      clear hK K
                      try simp only [Act.put, List.getElem_toArray, List.getElem_cons_zero, List.getElem_cons_succ, List.setIfInBounds_toArray, List.set_cons_zero, List.set_cons_succ]
                      refine wpAnyH_ready (rs := [6]) (by kernel_rfl) (by simp) ?_
                      refine AllReadyH.cons (o := _) rfl (fun K hK => ?_) ?_
                      · go_simp
                        refine hK.out _ _ ?_ (fun hHeld => ?_)
                        · trivial
                        clear hK K
                        try simp only [Act.put, List.getElem_toArray, List.getElem_cons_zero, List.getElem_cons_succ, List.setIfInBounds_toArray, List.set_cons_zero, List.set_cons_succ]
                        refine wpAnyH_ready (rs := [7]) (by kernel_rfl) (by simp) ?_
                        refine AllReadyH.cons (o := _) rfl (fun K hK => ?_) ?_
                        · refine step_append_keep _ (by rfl) _ _ _ (by rfl) (w.heap.size + 1) 41 i0 _ 3 32 Try.underlying23 hi hz0 hz1 hz2 rfl (by decide) g4 (l + l) c4 (flatG (xs ++ xs)) (by rfl) ?c0 ⟨gr, 0, none⟩ l c (flatG xs) (by rfl) ?c7 ?c1 ?c2 ?c3 ?c4 ?c5 w4.heap.size ?c6 ?_
                          case c0 => exact OG.row (by (repeat' (first | (with_reducible exact OWN.out) | with_reducible refine OG.alloc ?_ _ | with_reducible refine OG.drew ?_ | with_reducible refine OG.drewN ?_ _ | with_reducible refine OG.old ?_ ?_ _ | omega | (simp; done) | (simp; omega)))) (by rw [List.length_append, S6.out.len])
                          case c7 => rw [flatG_length, S6.out.len]
                          case c1 => exact (OG.newsOf OLD.out S6.out.len)
                          case c2 => exact flatG_one xs
                          case c3 => unfold maxLen; omega
                          case c4 => omega
                          case c5 => (first | omega | (simp; done) | (simp; omega))
                          case c6 => (first | omega | (simp; done) | (simp; omega))
                          intro g5 c5 w5 hown5 hold5 hgrow5 hat5b hl5
                          have hat6 : g5 ≠ q ∧ w.heap.size < g5 := by
                            rcases hat5b with h | h <;> omega
                          have WM := Lib.hid (PW.turn (by first | exact WN.out | exact WN.out.drew) hgrow5 hat5.2 hat5.1)
                          have SN := Lib.hid (PSt.of WM.out (OG.join (xs := xs ++ xs) (ys := xs) hown5 (by rw [List.length_append, S6.out.len]) S6.out.len) (by rw [List.length_append, List.length_append, S6.out.len]) hat6.1 hat6.2 hl5 (ChGood.app (ChGood.app S6.out.good S6.out.good) S6.out.good))
                          have m3 : w5.cell? ⟨q, 3, none⟩ = some (.slice (some ⟨gr, 0, none⟩) l c) := WM.out.var.cell 3
                          have mf3 := WM.out.var.frozen 3
                          have hq5 := WM.out.var.lt
                          clear hown5 hold5 hgrow5 hat5b
                          refine hK.out _ _ ?_ (fun hHeld => ?_)
                          · trivial
                          clear hK K
                          try simp only [Act.put, List.getElem_toArray, List.getElem_cons_zero, List.getElem_cons_succ, List.setIfInBounds_toArray, List.set_cons_zero, List.set_cons_succ]
                          refine' wpAnyH_take (i := 8) (v := _) rfl (by kernel_rfl) (by kernel_rfl) (by kernel_rfl) (fun _ _ _ h => h) (Or.inl ⟨by rfl, ?hys7⟩) (by assumption) ?rests7
                          case hys7 => (intro w hSw; (try dsimp only at hSw); go_simp; try with_reducible rfl)
                          try simp only [Act.put, List.getElem_toArray, List.getElem_cons_zero, List.getElem_cons_succ, List.setIfInBounds_toArray, List.set_cons_zero, List.set_cons_succ]
                          refine wpAnyH_ready (rs := [9]) (by kernel_rfl) (by simp) ?_
                          refine AllReadyH.cons (o := _) rfl (fun K hK => ?_) ?_
                          · go_simp
                            refine hK.out _ _ ?_ (fun hHeld => ?_)
                            · trivial
                            clear hK K
                            try simp only [Act.put, List.getElem_toArray, List.getElem_cons_zero, List.getElem_cons_succ, List.setIfInBounds_toArray, List.set_cons_zero, List.set_cons_succ]
                            refine wpAnyH_done (by kernel_rfl) ?_ _
                            refine NoPanic.normal ?_
                            clear v0 v1 v2 v3 vf0 vf1 vf2 vf3 x0 x1 x2 x3 xf0 xf1 xf2 xf3 hql hwl hqg hgg hne hqr GF LEN hgw2 hcc n3 m3 mf3 hHeld
                            generalize hW : w5.setCell _ _ = W at *
                            obtain ⟨⟨v0, v1, v2, v3⟩, vf0, vf1, vf2, vf3⟩ := SN.out.pw.var.get4
                            obtain ⟨⟨x0, x1, x2, x3⟩, xf0, xf1, xf2, xf3⟩ := SN.out.pw.res.get4
                            have hql := SN.out.pw.var.lt
                            have hwl := SN.out.pw.res.lt
                            have hqg := SN.out.pw.qgt
                            have hgg := SN.out.gt
                            have hne := SN.out.ne
                            have hqr : q ≠ w.heap.size := by omega
                            have GF := Lib.hid SN.out.pw.own
                            have LEN := Lib.hid SN.out.len
                            have hgw2 := SN.out.pw.gw
                            have hcc : (0 : Int) ≤ (c5 : Int) := by omega
                            go_wp2
                            refine bodyPost_ret (v := .agg #[.int .i64 7, .int .i64 9, .int .i64 tag, .slice (some ⟨g5, 0, none⟩) (l + l + l) c5]) (by simp [results, Try.results29, go_sem, x0, x1, x2, x3, v0, v1, v2, v3, hql, hqr, hwl]) rfl ⟨7, 9, tag, _, _, rfl, by omega, by omega, by omega, by omega, by omega, by omega, by have := LEN.out; omega, SN.out.good, ?_, ?_, ?_⟩
                            · (repeat' (first | (with_reducible exact SN.out.row) | (with_reducible refine OG.far ?_ ?_ _) | omega | (simp; done) | (simp; omega)))
                            · (repeat' (first | with_reducible exact SN.out.pw.rd.mono (by omega) | with_reducible refine Rd.mono SN.out.pw.rd.mono (by omega) ?_ | with_reducible refine Rd.setCell ?_ ?_ _ | with_reducible refine Rd.alloc ?_ _ | with_reducible refine Rd.drewN ?_ _ | with_reducible refine Rd.drew ?_ | omega | (simp; done) | (simp; omega)))
                            · (repeat' (first | with_reducible exact GF.out | with_reducible exact only_refl _ _ | with_reducible refine only_setCell ?_ (.inr ?_) _ | with_reducible refine only_alloc ?_ _ | with_reducible refine only_drewN ?_ _ | with_reducible refine only_drew ?_ | omega | (simp; done) | (simp; omega)))
                          exact AllReadyH.nil
                        exact AllReadyH.nil
                      exact AllReadyH.nil
                    refine AllReadyH.cons (o := _) rfl (fun K hK => ?_) ?_
                    · go_simp
                      refine hK.out _ _ ?_ (fun hHeld => ?_)
                      · trivial
                      clear hK K
                      try simp only [Act.put, List.getElem_toArray, List.getElem_cons_zero, List.getElem_cons_succ, List.setIfInBounds_toArray, List.set_cons_zero, List.set_cons_succ]
                      refine wpAnyH_ready (rs := [4]) (by kernel_rfl) (by simp) ?_
                      refine AllReadyH.cons (o := _) rfl (fun K hK => ?_) ?_
                      · refine step_append_keep _ (by rfl) _ _ _ (by rfl) (w.heap.size + 1) 41 i0 _ 3 32 Try.underlying23 hi hz0 hz1 hz2 rfl (by decide) gr l c (flatG xs) (by rfl) ?c0 ⟨gr, 0, none⟩ l c (flatG xs) (by rfl) ?c7 ?c1 ?c2 ?c3 ?c4 ?c5 wd.heap.size ?c6 ?_
                        case c0 => exact OG.row (by (repeat' (first | (with_reducible exact S6.out.row) | with_reducible refine OG.alloc ?_ _ | with_reducible refine OG.drew ?_ | with_reducible refine OG.drewN ?_ _ | with_reducible refine OG.old ?_ ?_ _ | omega | (simp; done) | (simp; omega)))) S6.out.len
                        case c7 => rw [flatG_length, S6.out.len]
                        case c1 => exact NW.out
                        case c2 => exact flatG_one xs
                        case c3 => unfold maxLen; omega
                        case c4 => omega
                        case c5 => (first | omega | (simp; done) | (simp; omega))
                        case c6 => (first | omega | (simp; done) | (simp; omega))
                        intro g4 c4 w4 hown4 hold4 hgrow hat4 hl4
                        have hat5 : g4 ≠ q ∧ w.heap.size < g4 := by
                          have h1 := S6.out.ne
                          have h2 := S6.out.gt
                          have h3 := S6.out.pw.var.lt
                          have h4 := S6.out.pw.res.lt
                          rcases hat4 with h | h <;> omega
                        have WN := Lib.hid (PW.turn (by first | exact S6.out.pw | exact S6.out.pw.drew) hgrow S6.out.gt S6.out.ne)
                        have n3 : w4.cell? ⟨q, 3, none⟩ = some (.slice (some ⟨gr, 0, none⟩) l c) := WN.out.var.cell 3
                        have hq4 := WN.out.var.lt
                        have OLD := Lib.hid (OG.of hold4 S6.out.len)
                        have OWN := Lib.hid (OG.join (xs := xs) (ys := xs) hown4 S6.out.len S6.out.len)
                        have hw4l := WN.out.res.lt
                        clear hown4 hold4 hgrow hat4
                        refine hK.out _ _ ?_ (fun hHeld => ?_)
                        · trivial
                        clear hK K
                        try simp only [Act.put, List.getElem_toArray, List.getElem_cons_zero, List.getElem_cons_succ, List.setIfInBounds_toArray, List.set_cons_zero, List.set_cons_succ]
                        refine wpAnyH_ready (rs := [7]) (by kernel_rfl) (by simp) ?_
                        refine AllReadyH.cons (o := _) rfl (fun K hK => ?_) ?_
                        · refine step_append_keep _ (by rfl) _ _ _ (by rfl) (w.heap.size + 1) 41 i0 _ 3 32 Try.underlying23 hi hz0 hz1 hz2 rfl (by decide) g4 (l + l) c4 (flatG (xs ++ xs)) (by rfl) ?c0 ⟨gr, 0, none⟩ l c (flatG xs) (by rfl) ?c7 ?c1 ?c2 ?c3 ?c4 ?c5 w4.heap.size ?c6 ?_
                          case c0 => exact OG.row (by (repeat' (first | (with_reducible exact OWN.out) | with_reducible refine OG.alloc ?_ _ | with_reducible refine OG.drew ?_ | with_reducible refine OG.drewN ?_ _ | with_reducible refine OG.old ?_ ?_ _ | omega | (simp; done) | (simp; omega)))) (by rw [List.length_append, S6.out.len])
                          case c7 => rw [flatG_length, S6.out.len]
                          case c1 => exact (OG.newsOf OLD.out S6.out.len)
                          case c2 => exact flatG_one xs
                          case c3 => unfold maxLen; omega
                          case c4 => omega
                          case c5 => (first | omega | (simp; done) | (simp; omega))
                          case c6 => (first | omega | (simp; done) | (simp; omega))
                          intro g5 c5 w5 hown5 hold5 hgrow5 hat5b hl5
                          have hat6 : g5 ≠ q ∧ w.heap.size < g5 := by
                            rcases hat5b with h | h <;> omega
                          have WM := Lib.hid (PW.turn (by first | exact WN.out | exact WN.out.drew) hgrow5 hat5.2 hat5.1)
                          have SN := Lib.hid (PSt.of WM.out (OG.join (xs := xs ++ xs) (ys := xs) hown5 (by rw [List.length_append, S6.out.len]) S6.out.len) (by rw [List.length_append, List.length_append, S6.out.len]) hat6.1 hat6.2 hl5 (ChGood.app (ChGood.app S6.out.good S6.out.good) S6.out.good))
                          have m3 : w5.cell? ⟨q, 3, none⟩ = some (.slice (some ⟨gr, 0, none⟩) l c) := WM.out.var.cell 3
                          have mf3 := WM.out.var.frozen 3
                          have hq5 := WM.out.var.lt
                          clear hown5 hold5 hgrow5 hat5b
                          refine hK.out _ _ ?_ (fun hHeld => ?_)
                          · trivial
                          clear hK K
                          try simp only [Act.put, List.getElem_toArray, List.getElem_cons_zero, List.getElem_cons_succ, List.setIfInBounds_toArray, List.set_cons_zero, List.set_cons_succ]
                          refine' wpAnyH_take (i := 8) (v := _) rfl (by kernel_rfl) (by kernel_rfl) (by kernel_rfl) (fun _ _ _ h => h) (Or.inl ⟨by rfl, ?hys8⟩) (by assumption) ?rests8
                          case hys8 => (intro w hSw; (try dsimp only at hSw); go_simp; try with_reducible rfl)
                          try simp only [Act.put, List.getElem_toArray, List.getElem_cons_zero, List.getElem_cons_succ, List.setIfInBounds_toArray, List.set_cons_zero, List.set_cons_succ]
                          refine wpAnyH_ready (rs := [9]) (by kernel_rfl) (by simp) ?_
                          refine AllReadyH.cons (o := _) rfl (fun K hK => ?_) ?_
                          · go_simp
                            refine hK.out _ _ ?_ (fun hHeld => ?_)
                            · trivial
                            clear hK K
                            try simp only [Act.put, List.getElem_toArray, List.getElem_cons_zero, List.getElem_cons_succ, List.setIfInBounds_toArray, List.set_cons_zero, List.set_cons_succ]
                            refine wpAnyH_done (by kernel_rfl) ?_ _
                            refine NoPanic.normal ?_
                            clear v0 v1 v2 v3 vf0 vf1 vf2 vf3 x0 x1 x2 x3 xf0 xf1 xf2 xf3 hql hwl hqg hgg hne hqr GF LEN hgw2 hcc n3 m3 mf3 hHeld
                            generalize hW : w5.setCell _ _ = W at *
                            obtain ⟨⟨v0, v1, v2, v3⟩, vf0, vf1, vf2, vf3⟩ := SN.out.pw.var.get4
                            obtain ⟨⟨x0, x1, x2, x3⟩, xf0, xf1, xf2, xf3⟩ := SN.out.pw.res.get4
                            have hql := SN.out.pw.var.lt
                            have hwl := SN.out.pw.res.lt
                            have hqg := SN.out.pw.qgt
                            have hgg := SN.out.gt
                            have hne := SN.out.ne
                            have hqr : q ≠ w.heap.size := by omega
                            have GF := Lib.hid SN.out.pw.own
                            have LEN := Lib.hid SN.out.len
                            have hgw2 := SN.out.pw.gw
                            have hcc : (0 : Int) ≤ (c5 : Int) := by omega
                            go_wp2
                            refine bodyPost_ret (v := .agg #[.int .i64 7, .int .i64 9, .int .i64 tag, .slice (some ⟨g5, 0, none⟩) (l + l + l) c5]) (by simp [results, Try.results29, go_sem, x0, x1, x2, x3, v0, v1, v2, v3, hql, hqr, hwl]) rfl ⟨7, 9, tag, _, _, rfl, by omega, by omega, by omega, by omega, by omega, by omega, by have := LEN.out; omega, SN.out.good, ?_, ?_, ?_⟩
                            · (repeat' (first | (with_reducible exact SN.out.row) | (with_reducible refine OG.far ?_ ?_ _) | omega | (simp; done) | (simp; omega)))
                            · (repeat' (first | with_reducible exact SN.out.pw.rd.mono (by omega) | with_reducible refine Rd.mono SN.out.pw.rd.mono (by omega) ?_ | with_reducible refine Rd.setCell ?_ ?_ _ | with_reducible refine Rd.alloc ?_ _ | with_reducible refine Rd.drewN ?_ _ | with_reducible refine Rd.drew ?_ | omega | (simp; done) | (simp; omega)))
                            · (repeat' (first | with_reducible exact GF.out | with_reducible exact only_refl _ _ | with_reducible refine only_setCell ?_ (.inr ?_) _ | with_reducible refine only_alloc ?_ _ | with_reducible refine only_drewN ?_ _ | with_reducible refine only_drew ?_ | omega | (simp; done) | (simp; omega)))
                          exact AllReadyH.nil
                        exact AllReadyH.nil
                      exact AllReadyH.nil
                    exact AllReadyH.nil
                  refine AllReadyH.cons (o := _) rfl (fun K hK => ?_) ?_
                  · go_simp
                    refine hK.out _ _ ?_ (fun hHeld => ?_)
                    · trivial
                    clear hK K
                    try simp only [Act.put, List.getElem_toArray, List.getElem_cons_zero, List.getElem_cons_succ, List.setIfInBounds_toArray, List.set_cons_zero, List.set_cons_succ]
                    refine wpAnyH_ready (rs := [1]) (by kernel_rfl) (by simp) ?_
                    refine AllReadyH.cons (o := _) rfl (fun K hK => ?_) ?_
                    · go_simp
                      refine hK.out _ _ ?_ (fun hHeld => ?_)
                      · trivial
                      clear hK K
                      try simp only [Act.put, List.getElem_toArray, List.getElem_cons_zero, List.getElem_cons_succ, List.setIfInBounds_toArray, List.set_cons_zero, List.set_cons_succ]
                      refine wpAnyH_ready (rs := [4]) (by kernel_rfl) (by simp) ?_
                      refine AllReadyH.cons (o := _) rfl (fun K hK => ?_) ?_
                      · refine step_append_keep _ (by rfl) _ _ _ (by rfl) (w.heap.size + 1) 41 i0 _ 3 32 Try.underlying23 hi hz0 hz1 hz2 rfl (by decide) gr l c (flatG xs) (by rfl) ?c0 ⟨gr, 0, none⟩ l c (flatG xs) (by rfl) ?c7 ?c1 ?c2 ?c3 ?c4 ?c5 wd.heap.size ?c6 ?_
                        case c0 => exact OG.row (by (repeat' (first | (with_reducible exact S6.out.row) | with_reducible refine OG.alloc ?_ _ | with_reducible refine OG.drew ?_ | with_reducible refine OG.drewN ?_ _ | with_reducible refine OG.old ?_ ?_ _ | omega | (simp; done) | (simp; omega)))) S6.out.len
                        case c7 => rw [flatG_length, S6.out.len]
                        case c1 => exact NW.out
                        case c2 => exact flatG_one xs
                        case c3 => unfold maxLen; omega
                        case c4 => omega
                        case c5 => (first | omega | (simp; done) | (simp; omega))
                        case c6 => (first | omega | (simp; done) | (simp; omega))
                        intro g4 c4 w4 hown4 hold4 hgrow hat4 hl4
                        have hat5 : g4 ≠ q ∧ w.heap.size < g4 := by
                          have h1 := S6.out.ne
                          have h2 := S6.out.gt
                          have h3 := S6.out.pw.var.lt
                          have h4 := S6.out.pw.res.lt
                          rcases hat4 with h | h <;> omega
                        have WN := Lib.hid (PW.turn (by first | exact S6.out.pw | exact S6.out.pw.drew) hgrow S6.out.gt S6.out.ne)
                        have n3 : w4.cell? ⟨q, 3, none⟩ = some (.slice (some ⟨gr, 0, none⟩) l c) := WN.out.var.cell 3
                        have hq4 := WN.out.var.lt
                        have OLD := Lib.hid (OG.of hold4 S6.out.len)
                        have OWN := Lib.hid (OG.join (xs := xs) (ys := xs) hown4 S6.out.len S6.out.len)
                        have hw4l := WN.out.res.lt
                        clear hown4 hold4 hgrow hat4
                        refine hK.out _ _ ?_ (fun hHeld => ?_)
                        · trivial
                        clear hK K
                        try simp only [Act.put, List.getElem_toArray, List.getElem_cons_zero, List.getElem_cons_succ, List.setIfInBounds_toArray, List.set_cons_zero, List.set_cons_succ]
                        refine wpAnyH_ready (rs := [7]) (by kernel_rfl) (by simp) ?_
                        refine AllReadyH.cons (o := _) rfl (fun K hK => ?_) ?_
                        · refine step_append_keep _ (by rfl) _ _ _ (by rfl) (w.heap.size + 1) 41 i0 _ 3 32 Try.underlying23 hi hz0 hz1 hz2 rfl (by decide) g4 (l + l) c4 (flatG (xs ++ xs)) (by rfl) ?c0 ⟨gr, 0, none⟩ l c (flatG xs) (by rfl) ?c7 ?c1 ?c2 ?c3 ?c4 ?c5 w4.heap.size ?c6 ?_
                          case c0 => exact OG.row (by (repeat' (first | (with_reducible exact OWN.out) | with_reducible refine OG.alloc ?_ _ | with_reducible refine OG.drew ?_ | with_reducible refine OG.drewN ?_ _ | with_reducible refine OG.old ?_ ?_ _ | omega | (simp; done) | (simp; omega)))) (by rw [List.length_append, S6.out.len])
                          case c7 => rw [flatG_length, S6.out.len]
                          case c1 => exact (OG.newsOf OLD.out S6.out.len)
                          case c2 => exact flatG_one xs
                          case c3 => unfold maxLen; omega
                          case c4 => omega
                          case c5 => (first | omega | (simp; done) | (simp; omega))
                          case c6 => (first | omega | (simp; done) | (simp; omega))
                          intro g5 c5 w5 hown5 hold5 hgrow5 hat5b hl5
                          have hat6 : g5 ≠ q ∧ w.heap.size < g5 := by
                            rcases hat5b with h | h <;> omega
                          have WM := Lib.hid (PW.turn (by first | exact WN.out | exact WN.out.drew) hgrow5 hat5.2 hat5.1)
                          have SN := Lib.hid (PSt.of WM.out (OG.join (xs := xs ++ xs) (ys := xs) hown5 (by rw [List.length_append, S6.out.len]) S6.out.len) (by rw [List.length_append, List.length_append, S6.out.len]) hat6.1 hat6.2 hl5 (ChGood.app (ChGood.app S6.out.good S6.out.good) S6.out.good))
                          have m3 : w5.cell? ⟨q, 3, none⟩ = some (.slice (some ⟨gr, 0, none⟩) l c) := WM.out.var.cell 3
                          have mf3 := WM.out.var.frozen 3
                          have hq5 := WM.out.var.lt
                          clear hown5 hold5 hgrow5 hat5b
                          refine hK.out _ _ ?_ (fun hHeld => ?_)
                          · trivial
                          clear hK K
                          try simp only [Act.put, List.getElem_toArray, List.getElem_cons_zero, List.getElem_cons_succ, List.setIfInBounds_toArray, List.set_cons_zero, List.set_cons_succ]
                          refine' wpAnyH_take (i := 8) (v := _) rfl (by kernel_rfl) (by kernel_rfl) (by kernel_rfl) (fun _ _ _ h => h) (Or.inl ⟨by rfl, ?hys9⟩) (by assumption) ?rests9
                          case hys9 => (intro w hSw; (try dsimp only at hSw); go_simp; try with_reducible rfl)
                          try simp only [Act.put, List.getElem_toArray, List.getElem_cons_zero, List.getElem_cons_succ, List.setIfInBounds_toArray, List.set_cons_zero, List.set_cons_succ]
                          refine wpAnyH_ready (rs := [9]) (by kernel_rfl) (by simp) ?_
                          refine AllReadyH.cons (o := _) rfl (fun K hK => ?_) ?_
                          · go_simp
                            refine hK.out _ _ ?_ (fun hHeld => ?_)
                            · trivial
                            clear hK K
                            try simp only [Act.put, List.getElem_toArray, List.getElem_cons_zero, List.getElem_cons_succ, List.setIfInBounds_toArray, List.set_cons_zero, List.set_cons_succ]
                            refine wpAnyH_done (by kernel_rfl) ?_ _
                            refine NoPanic.normal ?_
                            clear v0 v1 v2 v3 vf0 vf1 vf2 vf3 x0 x1 x2 x3 xf0 xf1 xf2 xf3 hql hwl hqg hgg hne hqr GF LEN hgw2 hcc n3 m3 mf3 hHeld
                            generalize hW : w5.setCell _ _ = W at *
                            obtain ⟨⟨v0, v1, v2, v3⟩, vf0, vf1, vf2, vf3⟩ := SN.out.pw.var.get4
                            obtain ⟨⟨x0, x1, x2, x3⟩, xf0, xf1, xf2, xf3⟩ := SN.out.pw.res.get4
                            have hql := SN.out.pw.var.lt
                            have hwl := SN.out.pw.res.lt
                            have hqg := SN.out.pw.qgt
                            have hgg := SN.out.gt
                            have hne := SN.out.ne
                            have hqr : q ≠ w.heap.size := by omega
                            have GF := Lib.hid SN.out.pw.own
                            have LEN := Lib.hid SN.out.len
                            have hgw2 := SN.out.pw.gw
                            have hcc : (0 : Int) ≤ (c5 : Int) := by omega
                            go_wp2
                            refine bodyPost_ret (v := .agg #[.int .i64 7, .int .i64 9, .int .i64 tag, .slice (some ⟨g5, 0, none⟩) (l + l + l) c5]) (by simp [results, Try.results29, go_sem, x0, x1, x2, x3, v0, v1, v2, v3, hql, hqr, hwl]) rfl ⟨7, 9, tag, _, _, rfl, by omega, by omega, by omega, by omega, by omega, by omega, by have := LEN.out; omega, SN.out.good, ?_, ?_, ?_⟩
                            · (repeat' (first | (with_reducible exact SN.out.row) | (with_reducible refine OG.far ?_ ?_ _) | omega | (simp; done) | (simp; omega)))
                            · (repeat' (first | with_reducible exact SN.out.pw.rd.mono (by omega) | with_reducible refine Rd.mono SN.out.pw.rd.mono (by omega) ?_ | with_reducible refine Rd.setCell ?_ ?_ _ | with_reducible refine Rd.alloc ?_ _ | with_reducible refine Rd.drewN ?_ _ | with_reducible refine Rd.drew ?_ | omega | (simp; done) | (simp; omega)))
                            · (repeat' (first | with_reducible exact GF.out | with_reducible exact only_refl _ _ | with_reducible refine only_setCell ?_ (.inr ?_) _ | with_reducible refine only_alloc ?_ _ | with_reducible refine only_drewN ?_ _ | with_reducible refine only_drew ?_ | omega | (simp; done) | (simp; omega)))
                          exact AllReadyH.nil
                        exact AllReadyH.nil
                      exact AllReadyH.nil
                    exact AllReadyH.nil
                  exact AllReadyH.nil
                refine AllReadyH.cons (o := _) rfl (fun K hK => ?_) ?_
                · go_simp
                  refine hK.out _ _ ?_ (fun hHeld => ?_)
                  · trivial
                  clear hK K
                  try simp only [Act.put, List.getElem_toArray, List.getElem_cons_zero, List.getElem_cons_succ, List.setIfInBounds_toArray, List.set_cons_zero, List.set_cons_succ]
                  refine wpAnyH_ready (rs := [1, 3]) (by kernel_rfl) (by simp) ?_
                  refine AllReadyH.cons (o := _) rfl (fun K hK => ?_) ?_
                  · go_simp
                    refine hK.out _ _ ?_ (fun hHeld => ?_)
                    · trivial
                    clear hK K
                    try simp only [Act.put, List.getElem_toArray, List.getElem_cons_zero, List.getElem_cons_succ, List.setIfInBounds_toArray, List.set_cons_zero, List.set_cons_succ]
                    refine wpAnyH_ready (rs := [3]) (by kernel_rfl) (by simp) ?_
                    refine AllReadyH.cons (o := _) rfl (fun K hK => ?_) ?_
                    · go_simp
                      refine hK.out _ _ ?_ (fun hHeld => ?_)
                      · trivial
                      clear hK K
                      try simp only [Act.put, List.getElem_toArray, List.getElem_cons_zero, List.getElem_cons_succ, List.setIfInBounds_toArray, List.set_cons_zero, List.set_cons_succ]
                      refine wpAnyH_ready (rs := [4]) (by kernel_rfl) (by simp) ?_
                      refine AllReadyH.cons (o := _) rfl (fun K hK => ?_) ?_
                      · refine step_append_keep _ (by rfl) _ _ _ (by rfl) (w.heap.size + 1) 41 i0 _ 3 32 Try.underlying23 hi hz0 hz1 hz2 rfl (by decide) gr l c (flatG xs) (by rfl) ?c0 ⟨gr, 0, none⟩ l c (flatG xs) (by rfl) ?c7 ?c1 ?c2 ?c3 ?c4 ?c5 wd.heap.size ?c6 ?_
                        case c0 => exact OG.row (by (repeat' (first | (with_reducible exact S6.out.row) | with_reducible refine OG.alloc ?_ _ | with_reducible refine OG.drew ?_ | with_reducible refine OG.drewN ?_ _ | with_reducible refine OG.old ?_ ?_ _ | omega | (simp; done) | (simp; omega)))) S6.out.len
                        case c7 => rw [flatG_length, S6.out.len]
                        case c1 => exact NW.out
                        case c2 => exact flatG_one xs
                        case c3 => unfold maxLen; omega
                        case c4 => omega
                        case c5 => (first | omega | (simp; done) | (simp; omega))
                        case c6 => (first | omega | (simp; done) | (simp; omega))
                        intro g4 c4 w4 hown4 hold4 hgrow hat4 hl4
                        have hat5 : g4 ≠ q ∧ w.heap.size < g4 := by
                          have h1 := S6.out.ne
                          have h2 := S6.out.gt
                          have h3 := S6.out.pw.var.lt
                          have h4 := S6.out.pw.res.lt
                          rcases hat4 with h | h <;> omega
                        have WN := Lib.hid (PW.turn (by first | exact S6.out.pw | exact S6.out.pw.drew) hgrow S6.out.gt S6.out.ne)
                        have n3 : w4.cell? ⟨q, 3, none⟩ = some (.slice (some ⟨gr, 0, none⟩) l c) := WN.out.var.cell 3
                        have hq4 := WN.out.var.lt
                        have OLD := Lib.hid (OG.of hold4 S6.out.len)
                        have OWN := Lib.hid (OG.join (xs := xs) (ys := xs) hown4 S6.out.len S6.out.len)
                        have hw4l := WN.out.res.lt
                        clear hown4 hold4 hgrow hat4
                        refine hK.out _ _ ?_ (fun hHeld => ?_)
                        · trivial
                        clear hK K
                        try simp only [Act.put, List.getElem_toArray, List.getElem_cons_zero, List.getElem_cons_succ, List.setIfInBounds_toArray, List.set_cons_zero, List.set_cons_succ]
                        refine wpAnyH_ready (rs := [7]) (by kernel_rfl) (by simp) ?_
                        refine AllReadyH.cons (o := _) rfl (fun K hK => ?_) ?_
                        · refine step_append_keep _ (by rfl) _ _ _ (by rfl) (w.heap.size + 1) 41 i0 _ 3 32 Try.underlying23 hi hz0 hz1 hz2 rfl (by decide) g4 (l + l) c4 (flatG (xs ++ xs)) (by rfl) ?c0 ⟨gr, 0, none⟩ l c (flatG xs) (by rfl) ?c7 ?c1 ?c2 ?c3 ?c4 ?c5 w4.heap.size ?c6 ?_
                          case c0 => exact OG.row (by (repeat' (first | (with_reducible exact OWN.out) | with_reducible refine OG.alloc ?_ _ | with_reducible refine OG.drew ?_ | with_reducible refine OG.drewN ?_ _ | with_reducible refine OG.old ?_ ?_ _ | omega | (simp; done) | (simp; omega)))) (by rw [List.length_append, S6.out.len])
                          case c7 => rw [flatG_length, S6.out.len]
                          case c1 => exact (OG.newsOf OLD.out S6.out.len)
                          case c2 => exact flatG_one xs
                          case c3 => unfold maxLen; omega
                          case c4 => omega
                          case c5 => (first | omega | (simp; done) | (simp; omega))
                          case c6 => (first | omega | (simp; done) | (simp; omega))
                          intro g5 c5 w5 hown5 hold5 hgrow5 hat5b hl5
                          have hat6 : g5 ≠ q ∧ w.heap.size < g5 := by
                            rcases hat5b with h | h <;> omega
                          have WM := Lib.hid (PW.turn (by first | exact WN.out | exact WN.out.drew) hgrow5 hat5.2 hat5.1)
                          have SN := Lib.hid (PSt.of WM.out (OG.join (xs := xs ++ xs) (ys := xs) hown5 (by rw [List.length_append, S6.out.len]) S6.out.len) (by rw [List.length_append, List.length_append, S6.out.len]) hat6.1 hat6.2 hl5 (ChGood.app (ChGood.app S6.out.good S6.out.good) S6.out.good))
                          have m3 : w5.cell? ⟨q, 3, none⟩ = some (.slice (some ⟨gr, 0, none⟩) l c) := WM.out.var.cell 3
                          have mf3 := WM.out.var.frozen 3
                          have hq5 := WM.out.var.lt
                          clear hown5 hold5 hgrow5 hat5b
                          refine hK.out _ _ ?_ (fun hHeld => ?_)
                          · trivial
                          clear hK K
                          try simp only [Act.put, List.getElem_toArray, List.getElem_cons_zero, List.getElem_cons_succ, List.setIfInBounds_toArray, List.set_cons_zero, List.set_cons_succ]
                          refine' wpAnyH_take (i := 8) (v := _) rfl (by kernel_rfl) (by kernel_rfl) (by kernel_rfl) (fun _ _ _ h => h) (Or.inl ⟨by rfl, ?hys10⟩) (by assumption) ?rests10
                          case hys10 => (intro w hSw; (try dsimp only at hSw); go_simp; try with_reducible rfl)
                          try simp only [Act.put, List.getElem_toArray, List.getElem_cons_zero, List.getElem_cons_succ, List.setIfInBounds_toArray, List.set_cons_zero, List.set_cons_succ]
                          refine wpAnyH_ready (rs := [9]) (by kernel_rfl) (by simp) ?_
                          refine AllReadyH.cons (o := _) rfl (fun K hK => ?_) ?_
                          · go_simp
                            refine hK.out _ _ ?_ (fun hHeld => ?_)
                            · trivial
                            clear hK K
                            try simp only [Act.put, List.getElem_toArray, List.getElem_cons_zero, List.getElem_cons_succ, List.setIfInBounds_toArray, List.set_cons_zero, List.set_cons_succ]
                            refine wpAnyH_done (by kernel_rfl) ?_ _
                            refine NoPanic.normal ?_
                            clear v0 v1 v2 v3 vf0 vf1 vf2 vf3 x0 x1 x2 x3 xf0 xf1 xf2 xf3 hql hwl hqg hgg hne hqr GF LEN hgw2 hcc n3 m3 mf3 hHeld
                            generalize hW : w5.setCell _ _ = W at *
                            obtain ⟨⟨v0, v1, v2, v3⟩, vf0, vf1, vf2, vf3⟩ := SN.out.pw.var.get4
                            obtain ⟨⟨x0, x1, x2, x3⟩, xf0, xf1, xf2, xf3⟩ := SN.out.pw.res.get4
                            have hql := SN.out.pw.var.lt
                            have hwl := SN.out.pw.res.lt
                            have hqg := SN.out.pw.qgt
                            have hgg := SN.out.gt
                            have hne := SN.out.ne
                            have hqr : q ≠ w.heap.size := by omega
                            have GF := Lib.hid SN.out.pw.own
                            have LEN := Lib.hid SN.out.len
                            have hgw2 := SN.out.pw.gw
                            have hcc : (0 : Int) ≤ (c5 : Int) := by omega
                            go_wp2
                            refine bodyPost_ret (v := .agg #[.int .i64 7, .int .i64 9, .int .i64 tag, .slice (some ⟨g5, 0, none⟩) (l + l + l) c5]) (by simp [results, Try.results29, go_sem, x0, x1, x2, x3, v0, v1, v2, v3, hql, hqr, hwl]) rfl ⟨7, 9, tag, _, _, rfl, by omega, by omega, by omega, by omega, by omega, by omega, by have := LEN.out; omega, SN.out.good, ?_, ?_, ?_⟩
                            · (repeat' (first | (with_reducible exact SN.out.row) | (with_reducible refine OG.far ?_ ?_ _) | omega | (simp; done) | (simp; omega)))
                            · (repeat' (first | with_reducible exact SN.out.pw.rd.mono (by omega) | with_reducible refine Rd.mono SN.out.pw.rd.mono (by omega) ?_ | with_reducible refine Rd.setCell ?_ ?_ _ | with_reducible refine Rd.alloc ?_ _ | with_reducible refine Rd.drewN ?_ _ | with_reducible refine Rd.drew ?_ | omega | (simp; done) | (simp; omega)))
                            · (repeat' (first | with_reducible exact GF.out | with_reducible exact only_refl _ _ | with_reducible refine only_setCell ?_ (.inr ?_) _ | with_reducible refine only_alloc ?_ _ | with_reducible refine only_drewN ?_ _ | with_reducible refine only_drew ?_ | omega | (simp; done) | (simp; omega)))
                          exact AllReadyH.nil
                        exact AllReadyH.nil
                      exact AllReadyH.nil
                    exact AllReadyH.nil
                  refine AllReadyH.cons (o := _) rfl (fun K hK => ?_) ?_
                  · go_simp
                    refine hK.out _ _ ?_ (fun hHeld => ?_)
                    · trivial
                    clear hK K
                    try simp only [Act.put, List.getElem_toArray, List.getElem_cons_zero, List.getElem_cons_succ, List.setIfInBounds_toArray, List.set_cons_zero, List.set_cons_succ]
                    refine wpAnyH_ready (rs := [1]) (by kernel_rfl) (by simp) ?_
                    refine AllReadyH.cons (o := _) rfl (fun K hK => ?_) ?_
                    · go_simp
                      refine hK.out _ _ ?_ (fun hHeld => ?_)
                      · trivial
                      clear hK K
                      try simp only [Act.put, List.getElem_toArray, List.getElem_cons_zero, List.getElem_cons_succ, List.setIfInBounds_toArray, List.set_cons_zero, List.set_cons_succ]
                      refine wpAnyH_ready (rs := [4]) (by kernel_rfl) (by simp) ?_
                      refine AllReadyH.cons (o := _) rfl (fun K hK => ?_) ?_
                      · refine step_append_keep _ (by rfl) _ _ _ (by rfl) (w.heap.size + 1) 41 i0 _ 3 32 Try.underlying23 hi hz0 hz1 hz2 rfl (by decide) gr l c (flatG xs) (by rfl) ?c0 ⟨gr, 0, none⟩ l c (flatG xs) (by rfl) ?c7 ?c1 ?c2 ?c3 ?c4 ?c5 wd.heap.size ?c6 ?_
                        case c0 => exact OG.row (by (repeat' (first | (with_reducible exact S6.out.row) | with_reducible refine OG.alloc ?_ _ | with_reducible refine OG.drew ?_ | with_reducible refine OG.drewN ?_ _ | with_reducible refine OG.old ?_ ?_ _ | omega | (simp; done) | (simp; omega)))) S6.out.len
                        case c7 => rw [flatG_length, S6.out.len]
                        case c1 => exact NW.out
                        case c2 => exact flatG_one xs
                        case c3 => unfold maxLen; omega
                        case c4 => omega
                        case c5 => (first | omega | (simp; done) | (simp; omega))
                        case c6 => (first | omega | (simp; done) | (simp; omega))
                        intro g4 c4 w4 hown4 hold4 hgrow hat4 hl4
                        have hat5 : g4 ≠ q ∧ w.heap.size < g4 := by
                          have h1 := S6.out.ne
                          have h2 := S6.out.gt
                          have h3 := S6.out.pw.var.lt
                          have h4 := S6.out.pw.res.lt
                          rcases hat4 with h | h <;> omega
                        have WN := Lib.hid (PW.turn (by first | exact S6.out.pw | exact S6.out.pw.drew) hgrow S6.out.gt S6.out.ne)
                        have n3 : w4.cell? ⟨q, 3, none⟩ = some (.slice (some ⟨gr, 0, none⟩) l c) := WN.out.var.cell 3
                        have hq4 := WN.out.var.lt
                        have OLD := Lib.hid (OG.of hold4 S6.out.len)
                        have OWN := Lib.hid (OG.join (xs := xs) (ys := xs) hown4 S6.out.len S6.out.len)
                        have hw4l := WN.out.res.lt
                        clear hown4 hold4 hgrow hat4
                        refine hK.out _ _ ?_ (fun hHeld => ?_)
                        · trivial
                        clear hK K
                        try simp only [Act.put, List.getElem_toArray, List.getElem_cons_zero, List.getElem_cons_succ, List.setIfInBounds_toArray, List.set_cons_zero, List.set_cons_succ]
                        refine wpAnyH_ready (rs := [7]) (by kernel_rfl) (by simp) ?_
                        refine AllReadyH.cons (o := _) rfl (fun K hK => ?_) ?_
                        · refine step_append_keep _ (by rfl) _ _ _ (by rfl) (w.heap.size + 1) 41 i0 _ 3 32 Try.underlying23 hi hz0 hz1 hz2 rfl (by decide) g4 (l + l) c4 (flatG (xs ++ xs)) (by rfl) ?c0 ⟨gr, 0, none⟩ l c (flatG xs) (by rfl) ?c7 ?c1 ?c2 ?c3 ?c4 ?c5 w4.heap.size ?c6 ?_
                          case c0 => exact OG.row (by (repeat' (first | (with_reducible exact OWN.out) | with_reducible refine OG.alloc ?_ _ | with_reducible refine OG.drew ?_ | with_reducible refine OG.drewN ?_ _ | with_reducible refine OG.old ?_ ?_ _ | omega | (simp; done) | (simp; omega)))) (by rw [List.length_append, S6.out.len])
                          case c7 => rw [flatG_length, S6.out.len]
                          case c1 => exact (OG.newsOf OLD.out S6.out.len)
                          case c2 => exact flatG_one xs
                          case c3 => unfold maxLen; omega
                          case c4 => omega
                          case c5 => (first | omega | (simp; done) | (simp; omega))
                          case c6 => (first | omega | (simp; done) | (simp; omega))
                          intro g5 c5 w5 hown5 hold5 hgrow5 hat5b hl5
                          have hat6 : g5 ≠ q ∧ w.heap.size < g5 := by
                            rcases hat5b with h | h <;> omega
                          have WM := Lib.hid (PW.turn (by first | exact WN.out | exact WN.out.drew) hgrow5 hat5.2 hat5.1)
                          have SN := Lib.hid (PSt.of WM.out (OG.join (xs := xs ++ xs) (ys := xs) hown5 (by rw [List.length_append, S6.out.len]) S6.out.len) (by rw [List.length_append, List.length_append, S6.out.len]) hat6.1 hat6.2 hl5 (ChGood.app (ChGood.app S6.out.good S6.out.good) S6.out.good))
                          have m3 : w5.cell? ⟨q, 3, none⟩ = some (.slice (some ⟨gr, 0, none⟩) l c) := WM.out.var.cell 3
                          have mf3 := WM.out.var.frozen 3
                          have hq5 := WM.out.var.lt
                          clear hown5 hold5 hgrow5 hat5b
                          refine hK.out _ _ ?_ (fun hHeld => ?_)
                          · trivial
                          clear hK K
                          try simp only [Act.put, List.getElem_toArray, List.getElem_cons_zero, List.getElem_cons_succ, List.setIfInBounds_toArray, List.set_cons_zero, List.set_cons_succ]
                          refine' wpAnyH_take (i := 8) (v := _) rfl (by kernel_rfl) (by kernel_rfl) (by kernel_rfl) (fun _ _ _ h => h) (Or.inl ⟨by rfl, ?hys11⟩) (by assumption) ?rests11
                          case hys11 => (intro w hSw; (try dsimp only at hSw); go_simp; try with_reducible rfl)
                          try simp only [Act.put, List.getElem_toArray, List.getElem_cons_zero, List.getElem_cons_succ, List.setIfInBounds_toArray, List.set_cons_zero, List.set_cons_succ]
                          refine wpAnyH_ready (rs := [9]) (by kernel_rfl) (by simp) ?_
                          refine AllReadyH.cons (o := _) rfl (fun K hK => ?_) ?_
                          · go_simp
                            refine hK.out _ _ ?_ (fun hHeld => ?_)
                            · trivial
                            clear hK K
                            try simp only [Act.put, List.getElem_toArray, List.getElem_cons_zero, List.getElem_cons_succ, List.setIfInBounds_toArray, List.set_cons_zero, List.set_cons_succ]
                            refine wpAnyH_done (by kernel_rfl) ?_ _
                            refine NoPanic.normal ?_
                            clear v0 v1 v2 v3 vf0 vf1 vf2 vf3 x0 x1 x2 x3 xf0 xf1 xf2 xf3 hql hwl hqg hgg hne hqr GF LEN hgw2 hcc n3 m3 mf3 hHeld
                            generalize hW : w5.setCell _ _ = W at *
                            obtain ⟨⟨v0, v1, v2, v3⟩, vf0, vf1, vf2, vf3⟩ := SN.out.pw.var.get4
                            obtain ⟨⟨x0, x1, x2, x3⟩, xf0, xf1, xf2, xf3⟩ := SN.out.pw.res.get4
                            have hql := SN.out.pw.var.lt
                            have hwl := SN.out.pw.res.lt
                            have hqg := SN.out.pw.qgt
                            have hgg := SN.out.gt
                            have hne := SN.out.ne
                            have hqr : q ≠ w.heap.size := by omega
                            have GF := Lib.hid SN.out.pw.own
                            have LEN := Lib.hid SN.out.len
                            have hgw2 := SN.out.pw.gw
                            have hcc : (0 : Int) ≤ (c5 : Int) := by omega
                            go_wp2
                            refine bodyPost_ret (v := .agg #[.int .i64 7, .int .i64 9, .int .i64 tag, .slice (some ⟨g5, 0, none⟩) (l + l + l) c5]) (by simp [results, Try.results29, go_sem, x0, x1, x2, x3, v0, v1, v2, v3, hql, hqr, hwl]) rfl ⟨7, 9, tag, _, _, rfl, by omega, by omega, by omega, by omega, by omega, by omega, by have := LEN.out; omega, SN.out.good, ?_, ?_, ?_⟩
                            · (repeat' (first | (with_reducible exact SN.out.row) | (with_reducible refine OG.far ?_ ?_ _) | omega | (simp; done) | (simp; omega)))
                            · (repeat' (first | with_reducible exact SN.out.pw.rd.mono (by omega) | with_reducible refine Rd.mono SN.out.pw.rd.mono (by omega) ?_ | with_reducible refine Rd.setCell ?_ ?_ _ | with_reducible refine Rd.alloc ?_ _ | with_reducible refine Rd.drewN ?_ _ | with_reducible refine Rd.drew ?_ | omega | (simp; done) | (simp; omega)))
                            · (repeat' (first | with_reducible exact GF.out | with_reducible exact only_refl _ _ | with_reducible refine only_setCell ?_ (.inr ?_) _ | with_reducible refine only_alloc ?_ _ | with_reducible refine only_drewN ?_ _ | with_reducible refine only_drew ?_ | omega | (simp; done) | (simp; omega)))
                          exact AllReadyH.nil
                        exact AllReadyH.nil
                      exact AllReadyH.nil
                    exact AllReadyH.nil
                  exact AllReadyH.nil
                exact AllReadyH.nil
              · have hvb4 : (v == 4) = false := by simp; omega
                obtain ⟨⟨v0, v1, v2, v3⟩, vf0, vf1, vf2, vf3⟩ := S6.out.pw.var.get4
                obtain ⟨⟨x0, x1, x2, x3⟩, xf0, xf1, xf2, xf3⟩ := S6.out.pw.res.get4
                have hql := S6.out.pw.var.lt
                have hwl := S6.out.pw.res.lt
                have hqg := S6.out.pw.qgt
                have hgg := S6.out.gt
                have hne := S6.out.ne
                have hqr : q ≠ w.heap.size := by omega
                have GF := Lib.hid S6.out.pw.own
                have LEN := Lib.hid S6.out.len
                have hgw2 := S6.out.pw.gw
                have hcc : (0 : Int) ≤ (c : Int) := by omega
                go_wp2
                refine bodyPost_ret (v := .agg #[.int .i64 7, .int .i64 9, .int .i64 tag, .slice (some ⟨gr, 0, none⟩) l c]) (by simp [results, Try.results29, go_sem, x0, x1, x2, x3, v0, v1, v2, v3, hql, hqr, hwl]) rfl ⟨7, 9, tag, _, xs, rfl, by omega, by omega, by omega, by omega, by omega, by omega, by have := LEN.out; omega, S6.out.good, ?_, ?_, ?_⟩
                · (repeat' (first | (with_reducible exact S6.out.row) | (with_reducible refine OG.far ?_ ?_ _) | omega | (simp; done) | (simp; omega)))
                · (repeat' (first | with_reducible exact S6.out.pw.rd.mono (by omega) | with_reducible refine Rd.mono S6.out.pw.rd.mono (by omega) ?_ | with_reducible refine Rd.setCell ?_ ?_ _ | with_reducible refine Rd.alloc ?_ _ | with_reducible refine Rd.drewN ?_ _ | with_reducible refine Rd.drew ?_ | omega | (simp; done) | (simp; omega)))
                · (repeat' (first | with_reducible exact GF.out | with_reducible exact only_refl _ _ | with_reducible refine only_setCell ?_ (.inr ?_) _ | with_reducible refine only_alloc ?_ _ | with_reducible refine only_drewN ?_ _ | with_reducible refine only_drew ?_ | omega | (simp; done) | (simp; omega)))
end Go.Proofs.Ytfkajcljcbdjiaa
