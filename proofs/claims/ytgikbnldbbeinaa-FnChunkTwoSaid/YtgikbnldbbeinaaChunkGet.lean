/-
  Reading a chunk: the program's function.
-/
import Derived.Test.YtgikbnldbbeinaaGetWords
import Derived.Test.YtgikbnldbbeinaaChunkFacts
import Derived.BigRegion
import Derived.LoopTactic
namespace Go.Proofs.Ytgikbnldbbeinaa
set_option linter.unusedVariables false
set_option linter.unusedSimpArgs false
open Go.RowKit

/-- The number of bytes that a chunk at a place tells, and where the next one begins. -/
def cgN (s : ByteArray) (a : Nat) : Nat := (wdAt s (a + 2)).toNat
def cgEnd (s : ByteArray) (a : Nat) : Nat := a + (cgN s a + 3) / 4 * 4
/-- There is a chunk at a place. -/
def CG (s : ByteArray) (a : Nat) : Prop := a + 4 ≤ s.size ∧ 4 ≤ cgN s a ∧ cgN s a ≤ 64 ∧ cgEnd s a ≤ s.size ∧ ∀ i, a + cgN s a ≤ i → i < cgEnd s a → byAt s i = 0
theorem cgN_int (s : ByteArray) (a : Nat) : wdAt s (a + 2) = (cgN s a : Int) := by
  unfold cgN; have := wdAt_range s (a + 2); omega
def cgYes (s : ByteArray) (a : Nat) : Value := .tuple #[.agg #[.int .i64 (byAt s a), .int .i64 (byAt s (a + 1)), .string (s.extract (a + 4) (a + cgN s a))], .int .i64 (cgEnd s a), .bool true]
def cgNo : Value := .tuple #[.agg #[.int .i64 0, .int .i64 0, .string ⟨#[]⟩], .int .i64 0, .bool false]

set_option maxHeartbeats 4000000 in
theorem c_ChunkGet_yes (s : ByteArray) (a : Nat) (w : World) (hs : s.size ≤ 2000000) (h : CG s a) :
    Calls Try.prog 10 #[.string s, .int .i64 a] w fun e w' => e = .returned (cgYes s a) ∧ Below w.heap.size w w' := by
  obtain ⟨h1, h2, h3, h4, h5⟩ := h
  have hs' : s.size ≤ maxLen := by unfold maxLen; omega
  have en := cgN_int s a
  have ee : (cgEnd s a : Int) = (a : Int) + ((cgN s a : Int) + 3) / 4 * 4 := by unfold cgEnd; omega
  have hle : a + cgN s a ≤ cgEnd s a := by unfold cgEnd; omega
  generalize hE : cgEnd s a = E at *
  generalize hn : cgN s a = n at *
  have hub : (a : Int) + ((n : Int) + 3) / 4 * 4 ≤ (s.size : Int) := by omega
  have HE := Lib.hid hE
  have Hn := Lib.hid hn
  have En := Lib.hid en
  have Ee := Lib.hid ee.symm
  clear hE hn en ee
  go_enter Try.func10, Try.ntmps10
  go_wp2_with fail
  rw [show (a : Int) + 2 = ((a + 2 : Nat) : Int) by omega]
  refine (c_WordGet s (a + 2) _ (by omega) hs').mono ?_
  rintro e w' ⟨rfl, nd, rfl⟩
  rw [En.out]
  have H5 := Lib.hid h5
  clear h5
  go_wp2
  go_loop [10] (fun i => ∃ j : Nat, a + n ≤ j ∧ j ≤ E ∧ i = .int .i64 j) (fun i => E - (intOf i).toNat)
  case atStart => exact ⟨a + n, Nat.le_refl _, hle, by go_num⟩
  case round =>
    obtain ⟨j, hj1, hj2, rfl⟩ := hrel
    by_cases hlt : j < E
    · have hz := H5.out j hj1 hlt
      rw [← byAt_get s j (by omega)] at hz
      have hlt2 : (j : Int) < (a : Int) + ((n : Int) + 3) / 4 * 4 := by rw [Ee.out]; omega
      have hjs : (j : Int) < s.size := by omega
      go_wp2
      go_round
      case rel => exact ⟨j + 1, by omega, by omega, by go_num⟩
      case measure => simp [intOf]; omega
    · have hlt2 : ¬ (j : Int) < (a : Int) + ((n : Int) + 3) / 4 * 4 := by rw [Ee.out]; omega
      have q1 : (0 : Int) ≤ (a : Int) := by omega
      have q2 : (a : Int) < (s.size : Int) := by omega
      have q3 : IntKind.i64.wrap ((a : Int) + 1) = (a : Int) + 1 := IntWalk.i64_in _ (by omega)
      have q4 : (0 : Int) ≤ (a : Int) + 1 := by omega
      have q5 : (a : Int) + 1 < (s.size : Int) := by omega
      have q6 : ((a : Int) + 1).toNat = a + 1 := by omega
      have q7 : IntKind.i64.wrap ((a : Int) + 4) = (a : Int) + 4 := IntWalk.i64_in _ (by omega)
      have q8 : IntKind.i64.wrap ((a : Int) + (n : Int)) = (a : Int) + (n : Int) := IntWalk.i64_in _ (by omega)
      have q9 : ((a : Int) + 4).toNat = a + 4 := by omega
      have q10 : ((a : Int) + (n : Int)).toNat = a + n := by omega
      have e1 := byAt_get s a (by omega)
      have e2 := byAt_get s (a + 1) (by omega)
      obtain ⟨r1, r2⟩ := byAt_range s a
      obtain ⟨r3, r4⟩ := byAt_range s (a + 1)
      have q11 : IntKind.i64.wrap (byAt s a) = byAt s a := IntWalk.i64_in _ (by omega)
      have q12 : IntKind.i64.wrap (byAt s (a + 1)) = byAt s (a + 1) := IntWalk.i64_in _ (by omega)
      go_wp2
      go_region
      all_goals go_wp2
      all_goals
        refine bodyPost_ret (v := .tuple #[.agg #[.int .i64 (byAt s a), .int .i64 (byAt s (a + 1)), .string (s.extract (a + 4) (a + n))], .int .i64 (E : Int), .bool true]) ?_ rfl ⟨?_, ?_⟩
      · simp [results, Try.results10, go_sem, Ee.out]
      · unfold cgYes; rw [HE.out, Hn.out]
      · exact (((below_drewN ((Below.refl w.heap.size w).alloc (Nat.le_refl _) _) _).setCell (Nat.le_refl _) _).setCell (Nat.le_refl _) _).setCell (Nat.le_refl _) _

-- The result's cell block and the zero value that is handed back where there is no chunk.
set_option maxHeartbeats 4000000 in
theorem c_ChunkGet_no (s : ByteArray) (a : Int) (w : World) (hs : s.size ≤ 2000000) (h : ∀ n : Nat, a = n → ¬ CG s n) :
    Calls Try.prog 10 #[.string s, .int .i64 a] w fun e w' => e = .returned cgNo ∧ Below w.heap.size w w' := by
  have hs' : s.size ≤ maxLen := by unfold maxLen; omega
  by_cases h0 : a < 0
  · clear h
    go_enter Try.func10, Try.ntmps10
    go_wp2
    exact bodyPost_ret (v := cgNo) (by simp [cgNo, results, Try.results10, go_sem]) rfl ⟨rfl, (Below.refl w.heap.size w).alloc (Nat.le_refl _) _⟩
  by_cases h1 : (s.size : Int) - 4 < a
  · clear h
    go_enter Try.func10, Try.ntmps10
    go_wp2
    exact bodyPost_ret (v := cgNo) (by simp [cgNo, results, Try.results10, go_sem]) rfl ⟨rfl, (Below.refl w.heap.size w).alloc (Nat.le_refl _) _⟩
  obtain ⟨m, rfl⟩ := Int.eq_ofNat_of_zero_le (show 0 ≤ a by omega)
  have hCG := h m rfl
  clear h
  have en := cgN_int s m
  have ee : (cgEnd s m : Int) = (m : Int) + ((cgN s m : Int) + 3) / 4 * 4 := by unfold cgEnd; omega
  have hle : m + cgN s m ≤ cgEnd s m := by unfold cgEnd; omega
  have hno : cgN s m < 4 ∨ 64 < cgN s m ∨ s.size < cgEnd s m ∨ ∃ i, m + cgN s m ≤ i ∧ i < cgEnd s m ∧ byAt s i ≠ 0 := by
    unfold CG at hCG
    by_cases g1 : cgN s m < 4
    · exact .inl g1
    by_cases g2 : 64 < cgN s m
    · exact .inr (.inl g2)
    by_cases g3 : s.size < cgEnd s m
    · exact .inr (.inr (.inl g3))
    refine .inr (.inr (.inr ?_))
    by_cases g4 : ∃ i, m + cgN s m ≤ i ∧ i < cgEnd s m ∧ byAt s i ≠ 0
    · exact g4
    · exact absurd ⟨by omega, by omega, by omega, by omega, fun i hi hi2 => by
        by_cases hb : byAt s i = 0
        · exact hb
        · exact absurd ⟨i, hi, hi2, hb⟩ g4⟩ hCG
  clear hCG
  have hnb : cgN s m ≤ 65535 := by have := wdAt_range s (m + 2); omega
  generalize hE : cgEnd s m = E at *
  generalize hn : cgN s m = n at *
  have En := Lib.hid en
  have Ee := Lib.hid ee.symm
  clear hE hn en ee
  rcases hno with g | g | g | ⟨i, hi1, hi2, hb⟩
  · go_enter Try.func10, Try.ntmps10
    go_wp2_with fail
    rw [show (m : Int) + 2 = ((m + 2 : Nat) : Int) by omega]
    refine (c_WordGet s (m + 2) _ (by omega) hs').mono ?_
    rintro e w' ⟨rfl, nd, rfl⟩
    rw [En.out]
    go_wp2
    exact bodyPost_ret (v := cgNo) (by simp [cgNo, results, Try.results10, go_sem]) rfl ⟨rfl, (((below_drewN ((Below.refl w.heap.size w).alloc (Nat.le_refl _) _) _).setCell (Nat.le_refl _) _).setCell (Nat.le_refl _) _).setCell (Nat.le_refl _) _⟩
  · go_enter Try.func10, Try.ntmps10
    go_wp2_with fail
    rw [show (m : Int) + 2 = ((m + 2 : Nat) : Int) by omega]
    refine (c_WordGet s (m + 2) _ (by omega) hs').mono ?_
    rintro e w' ⟨rfl, nd, rfl⟩
    rw [En.out]
    go_wp2
    exact bodyPost_ret (v := cgNo) (by simp [cgNo, results, Try.results10, go_sem]) rfl ⟨rfl, (((below_drewN ((Below.refl w.heap.size w).alloc (Nat.le_refl _) _) _).setCell (Nat.le_refl _) _).setCell (Nat.le_refl _) _).setCell (Nat.le_refl _) _⟩
  · by_cases g1 : n < 4
    · go_enter Try.func10, Try.ntmps10
      go_wp2_with fail
      rw [show (m : Int) + 2 = ((m + 2 : Nat) : Int) by omega]
      refine (c_WordGet s (m + 2) _ (by omega) hs').mono ?_
      rintro e w' ⟨rfl, nd, rfl⟩
      rw [En.out]
      go_wp2
      exact bodyPost_ret (v := cgNo) (by simp [cgNo, results, Try.results10, go_sem]) rfl ⟨rfl, (((below_drewN ((Below.refl w.heap.size w).alloc (Nat.le_refl _) _) _).setCell (Nat.le_refl _) _).setCell (Nat.le_refl _) _).setCell (Nat.le_refl _) _⟩
    by_cases g2 : 64 < n
    · go_enter Try.func10, Try.ntmps10
      go_wp2_with fail
      rw [show (m : Int) + 2 = ((m + 2 : Nat) : Int) by omega]
      refine (c_WordGet s (m + 2) _ (by omega) hs').mono ?_
      rintro e w' ⟨rfl, nd, rfl⟩
      rw [En.out]
      go_wp2
      exact bodyPost_ret (v := cgNo) (by simp [cgNo, results, Try.results10, go_sem]) rfl ⟨rfl, (((below_drewN ((Below.refl w.heap.size w).alloc (Nat.le_refl _) _) _).setCell (Nat.le_refl _) _).setCell (Nat.le_refl _) _).setCell (Nat.le_refl _) _⟩
    have hub : (s.size : Int) < (m : Int) + ((n : Int) + 3) / 4 * 4 := by rw [Ee.out]; omega
    go_enter Try.func10, Try.ntmps10
    go_wp2_with fail
    rw [show (m : Int) + 2 = ((m + 2 : Nat) : Int) by omega]
    refine (c_WordGet s (m + 2) _ (by omega) hs').mono ?_
    rintro e w' ⟨rfl, nd, rfl⟩
    rw [En.out]
    go_wp2
    exact bodyPost_ret (v := cgNo) (by simp [cgNo, results, Try.results10, go_sem]) rfl ⟨rfl, (((below_drewN ((Below.refl w.heap.size w).alloc (Nat.le_refl _) _) _).setCell (Nat.le_refl _) _).setCell (Nat.le_refl _) _).setCell (Nat.le_refl _) _⟩
  · by_cases g1 : n < 4
    · go_enter Try.func10, Try.ntmps10
      go_wp2_with fail
      rw [show (m : Int) + 2 = ((m + 2 : Nat) : Int) by omega]
      refine (c_WordGet s (m + 2) _ (by omega) hs').mono ?_
      rintro e w' ⟨rfl, nd, rfl⟩
      rw [En.out]
      go_wp2
      exact bodyPost_ret (v := cgNo) (by simp [cgNo, results, Try.results10, go_sem]) rfl ⟨rfl, (((below_drewN ((Below.refl w.heap.size w).alloc (Nat.le_refl _) _) _).setCell (Nat.le_refl _) _).setCell (Nat.le_refl _) _).setCell (Nat.le_refl _) _⟩
    by_cases g2 : 64 < n
    · go_enter Try.func10, Try.ntmps10
      go_wp2_with fail
      rw [show (m : Int) + 2 = ((m + 2 : Nat) : Int) by omega]
      refine (c_WordGet s (m + 2) _ (by omega) hs').mono ?_
      rintro e w' ⟨rfl, nd, rfl⟩
      rw [En.out]
      go_wp2
      exact bodyPost_ret (v := cgNo) (by simp [cgNo, results, Try.results10, go_sem]) rfl ⟨rfl, (((below_drewN ((Below.refl w.heap.size w).alloc (Nat.le_refl _) _) _).setCell (Nat.le_refl _) _).setCell (Nat.le_refl _) _).setCell (Nat.le_refl _) _⟩
    by_cases g3 : s.size < E
    · have hub : (s.size : Int) < (m : Int) + ((n : Int) + 3) / 4 * 4 := by rw [Ee.out]; omega
      go_enter Try.func10, Try.ntmps10
      go_wp2_with fail
      rw [show (m : Int) + 2 = ((m + 2 : Nat) : Int) by omega]
      refine (c_WordGet s (m + 2) _ (by omega) hs').mono ?_
      rintro e w' ⟨rfl, nd, rfl⟩
      rw [En.out]
      go_wp2
      exact bodyPost_ret (v := cgNo) (by simp [cgNo, results, Try.results10, go_sem]) rfl ⟨rfl, (((below_drewN ((Below.refl w.heap.size w).alloc (Nat.le_refl _) _) _).setCell (Nat.le_refl _) _).setCell (Nat.le_refl _) _).setCell (Nat.le_refl _) _⟩
    have hub : (m : Int) + ((n : Int) + 3) / 4 * 4 ≤ (s.size : Int) := by rw [Ee.out]; omega
    go_enter Try.func10, Try.ntmps10
    go_wp2_with fail
    rw [show (m : Int) + 2 = ((m + 2 : Nat) : Int) by omega]
    refine (c_WordGet s (m + 2) _ (by omega) hs').mono ?_
    rintro e w' ⟨rfl, nd, rfl⟩
    rw [En.out]
    go_wp2
    go_loop [10] (fun q => ∃ j : Nat, m + n ≤ j ∧ j ≤ i ∧ q = .int .i64 j) (fun q => E - (intOf q).toNat)
    case atStart => exact ⟨m + n, Nat.le_refl _, hi1, by go_num⟩
    case round =>
      obtain ⟨j, hj1, hj2, rfl⟩ := hrel
      have hlt2 : (j : Int) < (m : Int) + ((n : Int) + 3) / 4 * 4 := by rw [Ee.out]; omega
      have hjs : (j : Int) < s.size := by omega
      have hget := byAt_get s j (by omega)
      by_cases hz : byAt s j = 0
      · have hne : j ≠ i := by intro e; subst e; exact hb hz
        have hji : j < i := by omega
        clear hne
        rw [hz] at hget
        go_wp2
        go_round
        case rel => exact ⟨j + 1, by omega, by omega, by go_num⟩
        case measure => simp [intOf]; omega
      · have hne : (byAt s j != 0) = true := by simpa using hz
        have hne2 : (byAt s j == 0) = false := by simpa using hz
        go_wp2
        exact bodyPost_ret (v := cgNo) (by simp [cgNo, results, Try.results10, go_sem]) rfl ⟨rfl, (((below_drewN ((Below.refl w.heap.size w).alloc (Nat.le_refl _) _) _).setCell (Nat.le_refl _) _).setCell (Nat.le_refl _) _).setCell (Nat.le_refl _) _⟩

/-- What ChunkGet hands back. -/
theorem CG_or (s : ByteArray) (a : Int) : (∃ n : Nat, a = n ∧ CG s n) ∨ ∀ n : Nat, a = n → ¬ CG s n := by
  by_cases h : ∃ n : Nat, a = n ∧ CG s n
  · exact .inl h
  · exact .inr fun n e hc => h ⟨n, e, hc⟩
end Go.Proofs.Ytgikbnldbbeinaa
