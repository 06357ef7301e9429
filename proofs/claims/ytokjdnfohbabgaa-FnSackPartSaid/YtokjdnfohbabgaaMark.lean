/-
  The laws' own marks on a receipt that was handed back.
-/
import Derived.Test.YtokjdnfohbabgaaOGaps
namespace Go.Proofs.Ytokjdnfohbabgaa
set_option linter.unusedVariables false
set_option linter.unusedSimpArgs false
open Go.RowKit

theorem flatG_set (xs : List (Int × Int)) (j : Nat) (f t : Int) (h : j < xs.length) : flatG (xs.set j (f, t)) = ((flatG xs).set (j * 2) (.int .i64 f)).set (j * 2 + 1) (.int .i64 t) := by
  induction xs generalizing j with
  | nil => simp at h
  | cons a l ih =>
    match j, h with
    | 0, _ => rfl
    | j + 1, h =>
      have := ih j (by simpa using h)
      show Value.int .i64 a.1 :: Value.int .i64 a.2 :: flatG (l.set j (f, t)) = _
      rw [this, show (j + 1) * 2 = j * 2 + 1 + 1 by omega]
      rfl
theorem OG.put {w : World} {base g n c : Nat} {xs : List (Int × Int)} (h : OG w base (.slice (some ⟨g, 0, none⟩) n c) xs) (j : Nat) (hj : j < xs.length) (hn : n = xs.length) (f t : Int) :
    OG ((w.setCell ⟨g, j * 2, none⟩ (.int .i64 f)).setCell ⟨g, j * 2 + 1, none⟩ (.int .i64 t)) base (.slice (some ⟨g, 0, none⟩) n c) (xs.set j (f, t)) := by
  subst hn
  have h0 : w.ownsRow base 38 2 (.slice (some ⟨g, 0, none⟩) xs.length c) xs.length (flatG xs) := h
  have h1 := (h0.stored (j * 2) (.int .i64 f)).1
  have h2 := (h1.stored (j * 2 + 1) (.int .i64 t)).1
  unfold OG
  rw [flatG_set xs j f t hj, List.length_set]
  exact h2
theorem OG.at_ {w : World} {base g n c : Nat} {xs : List (Int × Int)} (h : OG w base (.slice (some ⟨g, 0, none⟩) n c) xs) (hn : n = xs.length) (j : Nat) (hj : j < xs.length) :
    w.cell? ⟨g, j * 2, none⟩ = some (.int .i64 (xs.getD j (0, 0)).1) ∧ w.cell? ⟨g, j * 2 + 1, none⟩ = some (.int .i64 (xs.getD j (0, 0)).2) ∧ w.frozen? ⟨g, j * 2, none⟩ = false ∧ w.frozen? ⟨g, j * 2 + 1, none⟩ = false ∧ g < w.heap.size := by
  subst hn
  have h0 : w.ownsRow base 38 2 (.slice (some ⟨g, 0, none⟩) xs.length c) xs.length (flatG xs) := h
  obtain ⟨e1, e2⟩ := flatG_get xs j hj
  have c1 : w.cell? ⟨g, j * 2, none⟩ = some (.int .i64 (xs.getD j (0, 0)).1) := by rw [h0.cellAt (j * 2) (by omega)]; exact e1
  refine ⟨c1, ?_, h0.frozenAt _, h0.frozenAt _, World.block_lt_of_cell? w _ c1⟩
  rw [h0.cellAt (j * 2 + 1) (by omega)]; exact e2
/-- The marks: 1, 2, 3 and so on. -/
def isMarked (xs : List (Int × Int)) (j : Nat) : Prop := ∀ i, i < j → xs.getD i (0, 0) = (1 + 2 * (i : Int), 2 + 2 * (i : Int))
theorem isMarked_step {xs : List (Int × Int)} {j : Nat} (h : isMarked xs j) (hj : j < xs.length) : isMarked (xs.set j (1 + 2 * (j : Int), 2 + 2 * (j : Int))) (j + 1) := fun i hi => by
  rw [List.getD_eq_getElem?_getD, List.getElem?_set]
  by_cases he : j = i
  · subst he
    rw [if_pos rfl, if_pos hj]; rfl
  · rw [if_neg he, ← List.getD_eq_getElem?_getD]
    exact h i (by omega)
/-- A row is marked: each field has a number of its own. -/
def Marked (w : World) (base : Nat) (v : Value) (xs : List (Int × Int)) (e : Ending) (w' : World) : Prop :=
  ∃ ys : List (Int × Int), ys.length = xs.length ∧ isMarked ys xs.length ∧ e = .returned (.int .i64 (1 + 2 * (xs.length : Int))) ∧ OG w' base v ys ∧ w.grownBy w' v.ownBlock
set_option maxHeartbeats 2000000 in
theorem c_markGapS (v : Value) (base : Nat) (xs : List (Int × Int)) (w : World) (hO : OG w base v xs) (hn : xs.length ≤ 1000000) :
    Calls Try.prog 50 #[v, .int .i64 1] w (Marked w base v xs) := by
  rcases hO.2 with ⟨rfl, h0⟩ | ⟨g, c, cur, rfl, hb, hg, hnc, hcm, hcs, ht⟩
  · have hx : xs = [] := List.eq_nil_of_length_eq_zero h0
    subst hx
    go_enter Try.func50, Try.ntmps50
    go_wp2
    go_loopw [1, 5] (fun k i wr => k = .int .i64 1 ∧ i = .int .i64 0 ∧ wr = w) (fun _ _ _ => 0)
    case atStart => exact ⟨rfl, rfl, rfl⟩
    case round =>
      obtain ⟨rfl, rfl, rfl⟩ := hrel
      go_wp2
      go_ret
      exact ⟨[], rfl, fun i hi => absurd hi (Nat.not_lt_zero _), rfl, hO, ⟨rfl, rfl, rfl, Nat.le_refl _, fun _ _ _ => rfl⟩⟩
  · clear hg hcs ht cur
    obtain ⟨n, hl⟩ : ∃ n, xs.length = n := ⟨_, rfl⟩
    rw [hl] at hO hnc hn ⊢
    unfold Marked
    rw [hl]
    have HL := Lib.hid hl
    clear hl
    go_enter Try.func50, Try.ntmps50
    go_wp2
    go_loopw [1, 5] (fun k i wr => ∃ (j : Nat) (ys : List (Int × Int)), j ≤ n ∧ k = .int .i64 (1 + 2 * (j : Int)) ∧ i = .int .i64 j ∧ ys.length = n ∧ isMarked ys j ∧ OG wr base (.slice (some ⟨g, 0, none⟩) n c) ys ∧ w.grownBy wr (some g)) (fun _ i _ => n - (intOf i).toNat)
    case atStart => exact ⟨0, xs, Nat.zero_le _, rfl, rfl, HL.out, fun i hi => absurd hi (Nat.not_lt_zero _), hO, only_refl w g⟩
    case round =>
      obtain ⟨j, ys, hj, rfl, rfl, hy, hm, hO1, hg1⟩ := hrel
      have HY := Lib.hid hy
      have HM := Lib.hid hm
      have HO1 := Lib.hid hO1
      have HG1 := Lib.hid hg1
      clear hy hm hg1
      by_cases hlt : j < n
      · obtain ⟨c0, c1, f0, f1, hgl⟩ := hO1.at_ HY.out.symm j (by rw [HY.out]; exact hlt)
        clear hO1
        have hjn : (j : Int) < (n : Int) := by omega
        have hj0 : (0 : Int) ≤ (j : Int) := by omega
        generalize (ys.getD j (0, 0)).1 = u0 at c0
        generalize (ys.getD j (0, 0)).2 = u1 at c1
        go_wp2
        go_roundw
        case rel =>
          refine ⟨j + 1, ys.set j (1 + 2 * (j : Int), 2 + 2 * (j : Int)), by omega, by go_num, by go_num, by rw [List.length_set]; exact HY.out, isMarked_step HM.out (by rw [HY.out]; exact hlt), ?_, ?_⟩
          · have h := HO1.out.put j (by rw [HY.out]; exact hlt) HY.out.symm (1 + 2 * (j : Int)) (2 + 2 * (j : Int))
            have e : (1 + 2 * (j : Int)) + 1 = 2 + 2 * (j : Int) := by omega
            first | exact h | (rw [e]; exact h)
          · exact only_setCell (only_setCell HG1.out (.inl rfl) _) (.inl rfl) _
        case measure => simp [intOf]; omega
      · have hje : j = n := by omega
        subst hje
        go_wp2
        go_ret
        exact ⟨ys, HY.out, HM.out, rfl, hO1, HG1.out⟩
/-- Each field has its number still. -/
theorem c_heldGapS (A : Option Addr) (n c : Nat) (xs : List (Int × Int)) (B : Nat) (w : World) (hG : Gaps w B A n xs) (hn : n ≤ 1000000) (hm : isMarked xs n) :
    Calls Try.prog 51 #[.slice A n c, .int .i64 1] w fun e w' => e = .returned (.int .i64 (1 + 2 * (n : Int))) ∧ w = w' := by
  go_enter Try.func51, Try.ntmps51
  go_wp2
  go_loop [1, 5] (fun k i => ∃ j : Nat, j ≤ n ∧ k = .int .i64 (1 + 2 * (j : Int)) ∧ i = .int .i64 j) (fun _ i => n - (intOf i).toNat)
  case atStart => exact ⟨0, Nat.zero_le _, rfl, rfl⟩
  case round =>
    obtain ⟨j, hj, rfl, rfl⟩ := hrel
    by_cases hlt : j < n
    · obtain ⟨b, o, rfl, hb, hc⟩ := hG.2 (by omega)
      obtain ⟨c0, c1⟩ := hc j hlt
      rw [hm j hlt] at c0 c1
      simp only at c0 c1
      have hjn : (j : Int) < (n : Int) := by omega
      have hj0 : (0 : Int) ≤ (j : Int) := by omega
      have e1 : ((1 + 2 * (j : Int)) != (1 + 2 * (j : Int))) = false := by simp
      have e2 : ((2 + 2 * (j : Int)) != (1 + 2 * (j : Int) + 1)) = false := by simp; omega
      clear hc hG
      go_wp2
      go_round
      case rel => exact ⟨j + 1, by omega, by go_num, by go_num⟩
      case measure => simp [intOf]; omega
    · have hje : j = n := by omega
      subst hje
      go_wp2
      go_ret
      exact ⟨rfl, rfl⟩
theorem c_markSack (cum : Int) (v : Value) (base : Nat) (xs : List (Int × Int)) (w : World) (hO : OG w base v xs) (hbw : base ≤ w.heap.size) (hn : xs.length ≤ 1000000) :
    Calls Try.prog 28 #[.agg #[.int .i64 cum, v], .int .i64 1] w (Marked w base v xs) := by
  have hvs : ∃ A n c, v = .slice A n c := by
    rcases hO.2 with ⟨rfl, _⟩ | ⟨g, c, _, rfl, _⟩
    · exact ⟨_, _, _, rfl⟩
    · exact ⟨_, _, _, rfl⟩
  obtain ⟨A, n, c, rfl⟩ := hvs
  go_enter Try.func28, Try.ntmps28
  go_wp2_with fail
  refine (c_markGapS (.slice A n c) base xs _ (hO.below ((Below.refl _ _).alloc (Nat.le_refl _) _)) hn).mono ?_
  rintro e w1 ⟨ys, hy, hm, rfl, hO1, hg⟩
  go_wp2
  go_ret
  exact ⟨ys, hy, hm, rfl, hO1, ⟨hg.os, hg.tape, hg.output, Nat.le_trans (by simp) hg.size, fun i hi hne => (hg.block i (by simp; omega) hne).trans (Below.heap_alloc w _ i hi)⟩⟩
theorem c_heldSack (cum : Int) (A : Option Addr) (n c : Nat) (xs : List (Int × Int)) (w : World) (hG : Gaps w w.heap.size A n xs) (hn : n ≤ 1000000) (hm : isMarked xs n) :
    Calls Try.prog 29 #[.agg #[.int .i64 cum, .slice A n c], .int .i64 1] w fun e w' => e = .returned (.int .i64 (1 + 2 * (n : Int))) ∧ Below w.heap.size w w' := by
  go_enter Try.func29, Try.ntmps29
  go_wp2_with fail
  refine (c_heldGapS A n c xs w.heap.size _ (hG.alloc (Nat.le_refl _) _) hn hm).mono ?_
  rintro e w1 ⟨rfl, rfl⟩
  go_wp2
  go_ret
  exact ⟨rfl, (Below.refl _ _).alloc (Nat.le_refl _) _⟩
theorem OG.ownlt {w : World} {base k : Nat} {v : Value} {xs : List (Int × Int)} (h : OG w base v xs) (hk : w.heap.size ≤ k) : some k ≠ v.ownBlock := by
  rcases h.2 with ⟨rfl, _⟩ | ⟨g, c, cur, rfl, hb, hg, _⟩
  · simp [Value.ownBlock]
  · have hlt : g < w.heap.size := (Array.getElem?_eq_some_iff.1 hg).1
    simp [Value.ownBlock]; omega
theorem Blk.own {w w' : World} {k : Nat} {t : TypeId} {cs : Array Value} {row : Option Nat} (h : Blk w k t cs) (hg : w.grownBy w' row) (hk : some k ≠ row) : Blk w' k t cs := (hg.block k h.lt hk).trans h
theorem OG.rest {w w' : World} {base : Nat} {v : Value} {xs : List (Int × Int)} (h : OG w base v xs) (hg : w.grownBy w' v.ownBlock) (hb : base ≤ w.heap.size) : Below base w w' := below_row h hg hb
end Go.Proofs.Ytokjdnfohbabgaa
