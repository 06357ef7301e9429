/-
  Reading a chunk: the reference's function.
-/
import Derived.Test.YtgikbnldbbeinaaChunkGet
import Derived.Test.YtgikbnldbbeinaaBytes
import Derived.Test.YtgikbnldbbeinaaChunkPut
import Derived.Test.YtgikbnldbbeinaaBlk
namespace Go.Proofs.Ytgikbnldbbeinaa
set_option linter.unusedVariables false
set_option linter.unusedSimpArgs false
open Go.RowKit

/-- The text of the chunk that is told at a place. -/
def cgText (s : ByteArray) (a : Nat) : ByteArray := cput (byAt s a) (byAt s (a + 1)) (s.extract (a + 4) (a + cgN s a))
theorem cgText_size (s : ByteArray) (a : Nat) (h1 : 4 ≤ cgN s a) (h2 : a + cgN s a ≤ s.size) : a + (cgText s a).size = cgEnd s a := by
  unfold cgText cgEnd
  rw [cput_size, size_extract _ _ _ h2]
  unfold padN; omega
theorem cgText_eq (s : ByteArray) (a : Nat) (h1 : 4 ≤ cgN s a) (h3 : cgN s a ≤ 64) (h2 : cgEnd s a ≤ s.size) :
    s.extract a (cgEnd s a) = cgText s a ↔ ∀ i, a + cgN s a ≤ i → i < cgEnd s a → byAt s i = 0 := by
  have hle : a + cgN s a ≤ cgEnd s a := by unfold cgEnd; omega
  have hsz := cgText_size s a h1 (by omega)
  have hes : (s.extract a (cgEnd s a)).size = cgEnd s a - a := size_extract _ _ _ h2
  have r0 := byAt_range s a
  have r1 := byAt_range s (a + 1)
  have r2 := byAt_range s (a + 2)
  have r3 := byAt_range s (a + 3)
  have hw : 256 * byAt s (a + 2) + byAt s (a + 3) = (cgN s a : Int) := cgN_int s a
  have hb : (s.extract (a + 4) (a + cgN s a)).size = cgN s a - 4 := by rw [size_extract _ _ _ (by omega)]; omega
  have key : ∀ i, byAt (cgText s a) i = if i = 0 then byAt s a else if i = 1 then byAt s (a + 1) else if i = 2 then 0 else if i = 3 then (cgN s a : Int) else if i < cgN s a then byAt s (a + i) else 0 := by
    intro i
    unfold cgText
    rw [cput_at _ _ _ r0.1 r0.2 r1.1 r1.2 (by omega), hb]
    by_cases e0 : i = 0
    · simp [e0]
    by_cases e1 : i = 1
    · simp [e1]
    by_cases e2 : i = 2
    · simp [e2]
    by_cases e3 : i = 3
    · simp [e3]; omega
    rw [if_neg e0, if_neg e1, if_neg e2, if_neg e3, if_neg e0, if_neg e1, if_neg e2, if_neg e3]
    by_cases h : i < cgN s a
    · rw [if_pos (by omega), if_pos h, byAt_extract _ _ _ _ (by omega) (by omega)]
      congr 1; omega
    · rw [if_neg (by omega), if_neg h]
  constructor
  · intro h i hi hi2
    have := byAt_extract s a (cgEnd s a) (i - a) (by omega) h2
    rw [h, key, if_neg (by omega), if_neg (by omega), if_neg (by omega), if_neg (by omega), if_neg (by omega)] at this
    rw [show i = a + (i - a) by omega]
    exact this.symm
  · intro h
    refine by_ext (by omega) (fun i hi => ?_)
    rw [hes] at hi
    rw [byAt_extract s a _ i (by omega) h2, key]
    by_cases e0 : i = 0
    · simp [e0]
    by_cases e1 : i = 1
    · simp [e1]
    by_cases e2 : i = 2
    · simp [e2]; omega
    by_cases e3 : i = 3
    · simp [e3]; omega
    rw [if_neg e0, if_neg e1, if_neg e2, if_neg e3]
    by_cases h5 : i < cgN s a
    · rw [if_pos h5]
    · rw [if_neg h5]
      exact h (a + i) (by omega) (by omega)
theorem CG_text (s : ByteArray) (a : Nat) : CG s a ↔ a + 4 ≤ s.size ∧ 4 ≤ cgN s a ∧ cgN s a ≤ 64 ∧ cgEnd s a ≤ s.size ∧ s.extract a (cgEnd s a) = cgText s a := by
  unfold CG
  constructor
  · rintro ⟨h1, h2, h3, h4, h5⟩
    exact ⟨h1, h2, h3, h4, (cgText_eq s a h2 h3 h4).2 h5⟩
  · rintro ⟨h1, h2, h3, h4, h5⟩
    exact ⟨h1, h2, h3, h4, (cgText_eq s a h2 h3 h4).1 h5⟩

set_option maxHeartbeats 4000000 in
theorem c_sChunkGet_yes (s : ByteArray) (a : Nat) (w : World) (hs : s.size ≤ 2000000) (h : CG s a) :
    Calls Try.prog 11 #[.string s, .int .i64 a] w fun e w' => e = .returned (cgYes s a) ∧ Below w.heap.size w w' := by
  obtain ⟨h1, h2, h3, h4, h5⟩ := (CG_text s a).1 h
  have hal0 : a < s.size := by omega
  have hal : a + 1 < s.size := by omega
  have hs' : s.size ≤ maxLen := by unfold maxLen; omega
  have hle : a + cgN s a ≤ cgEnd s a := by unfold cgEnd; omega
  have htx := cgText_size s a h2 (by omega)
  have en := cgN_int s a
  have r0 := byAt_range s a
  have r1 := byAt_range s (a + 1)
  obtain ⟨r2, r3⟩ := byAt_range s a
  obtain ⟨r4, r5⟩ := byAt_range s (a + 1)
  have hbs : (s.extract (a + 4) (a + cgN s a)).size ≤ 60 := by rw [size_extract _ _ _ (by omega)]; omega
  have htd : cgText s a = cput (byAt s a) (byAt s (a + 1)) (s.extract (a + 4) (a + cgN s a)) := rfl
  have hY : cgYes s a = .tuple #[.agg #[.int .i64 (byAt s a), .int .i64 (byAt s (a + 1)), .string (s.extract (a + 4) (a + cgN s a))], .int .i64 (cgEnd s a), .bool true] := rfl
  generalize hE : cgEnd s a = E at *
  generalize hn : cgN s a = n at *
  generalize hT : cgText s a = T at *
  have e1 := byAt_get s a hal0
  have e2 := byAt_get s (a + 1) hal
  have HY := Lib.hid hY
  have En := Lib.hid en
  have Td := Lib.hid htd
  have hin : inB (n : Int) 4 64 = true := by unfold inB; simp; omega
  have heq : ((s.extract a E).toList == T.toList) = true := by rw [h5]; simp
  have Htx := Lib.hid htx
  have htl : a + T.size ≤ s.size := by omega
  clear hY en htd hE hn hT h5 htx h
  go_enter Try.func11, Try.ntmps11
  go_wp2_with fail
  rw [show (a : Int) + 2 = ((a + 2 : Nat) : Int) by omega]
  refine (c_l1At s (a + 2) _ (by omega) hs').mono ?_
  rintro e w' ⟨rfl, nd, rfl⟩
  rw [En.out]
  go_wp2_with fail
  refine (c_l6In (n : Int) 4 64 _).mono ?_
  rintro e w' ⟨rfl, rfl⟩
  have q1 : (0 : Int) ≤ (a : Int) := by omega
  have q2 : (a : Int) < (s.size : Int) := by omega
  have q3 : IntKind.i64.wrap ((a : Int) + 1) = (a : Int) + 1 := IntWalk.i64_in _ (by omega)
  have q4 : (0 : Int) ≤ (a : Int) + 1 := by omega
  have q5 : (a : Int) + 1 < (s.size : Int) := by omega
  have q6 : ((a : Int) + 1).toNat = a + 1 := by omega
  have q7 : IntKind.i64.wrap ((a : Int) + 4) = (a : Int) + 4 := IntWalk.i64_in _ (by omega)
  have q8 : IntKind.i64.wrap ((a : Int) + (n : Int)) = (a : Int) + (n : Int) := IntWalk.i64_in _ (by omega)
  have q9 : ((a : Int) + 4).toNat = a + 4 := by omega
  have q10 : ((a : Int) + (n : Int)).toNat = a + n := by omega
  have q11 : IntKind.i64.wrap (byAt s a) = byAt s a := IntWalk.i64_in _ (by omega)
  have q12 : IntKind.i64.wrap (byAt s (a + 1)) = byAt s (a + 1) := IntWalk.i64_in _ (by omega)
  go_wp2_with fail
  go_region
  all_goals go_wp2_with fail
  all_goals
    refine (c_l11Put (byAt s a) (byAt s (a + 1)) (s.extract (a + 4) (a + n)) _ r2 r3 r4 r5 hbs).mono ?_
    rintro e u ⟨rfl, h2⟩
    rw [← Td.out]
  all_goals
    have hs1 : ((w.alloc (.cells #[.int .i64 0, .int .i64 0, .string ⟨#[]⟩] 26)).drewN (nd + 1)).heap.size = w.heap.size + 1 := by simp
    obtain ⟨d0, d1, d2, hlt⟩ := box3 h2
    rw [hs1] at d0 d1 d2 hlt
    have hR : Blk u w.heap.size 26 #[.int .i64 0, .int .i64 0, .string ⟨#[]⟩] := Blk.below (Blk.alloc (w := (w.alloc (.cells #[.int .i64 0, .int .i64 0, .string ⟨#[]⟩] 26)).drewN (nd + 1)) (Blk.new w _ _) _) h2 (by simp; omega)
    have B0 : Below w.heap.size w u := below_step (((below_drewN ((Below.refl w.heap.size w).alloc (Nat.le_refl _) _) _).alloc (by simp) _)) (by simp; omega) h2
    have HB := Lib.hid B0
    clear B0 h2 hs1
    obtain ⟨c0, c1, c2, c3, c4, c5⟩ := hR.get3
    clear hR
    have hte : ((a : Int) + (T.size : Int)).toNat = E := by rw [← Htx.out]; omega
    have htz : (a : Int) + (T.size : Int) ≤ (s.size : Int) := by omega
    go_wp2
    refine bodyPost_ret (v := .tuple #[.agg #[.int .i64 (byAt s a), .int .i64 (byAt s (a + 1)), .string (s.extract (a + 4) (a + n))], .int .i64 (E : Int), .bool true]) ?_ rfl ⟨?_, ?_⟩
    · have hE2 : (a : Int) + (T.size : Int) = (E : Int) := by rw [← Htx.out]; omega
      simp [results, Try.results11, go_sem, hE2, c0, c1, c2]
    · rw [HY.out]
    · exact ((HB.out.setCell (Nat.le_refl _) _).setCell (Nat.le_refl _) _).setCell (Nat.le_refl _) _

set_option maxHeartbeats 4000000 in
theorem c_sChunkGet_no (s : ByteArray) (a : Int) (w : World) (hs : s.size ≤ 2000000) (h : ∀ n : Nat, a = n → ¬ CG s n) :
    Calls Try.prog 11 #[.string s, .int .i64 a] w fun e w' => e = .returned cgNo ∧ Below w.heap.size w w' := by
  have hs' : s.size ≤ maxLen := by unfold maxLen; omega
  by_cases h0 : a < 0
  · clear h
    go_enter Try.func11, Try.ntmps11
    go_wp2
    exact bodyPost_ret (v := cgNo) (by simp [cgNo, results, Try.results11, go_sem]) rfl ⟨rfl, (Below.refl w.heap.size w).alloc (Nat.le_refl _) _⟩
  by_cases h1 : (s.size : Int) - 4 < a
  · clear h
    go_enter Try.func11, Try.ntmps11
    go_wp2
    exact bodyPost_ret (v := cgNo) (by simp [cgNo, results, Try.results11, go_sem]) rfl ⟨rfl, (Below.refl w.heap.size w).alloc (Nat.le_refl _) _⟩
  obtain ⟨m, rfl⟩ := Int.eq_ofNat_of_zero_le (show 0 ≤ a by omega)
  have hCG := h m rfl
  clear h
  have hal0 : m < s.size := by omega
  have hal : m + 1 < s.size := by omega
  have en := cgN_int s m
  have hnb : cgN s m ≤ 65535 := by have := wdAt_range s (m + 2); omega
  have hle : m + cgN s m ≤ cgEnd s m := by unfold cgEnd; omega
  by_cases hin0 : 4 ≤ cgN s m ∧ cgN s m ≤ 64
  · obtain ⟨g1, g2⟩ := hin0
    by_cases hms : s.size < m + cgN s m
    · generalize hn : cgN s m = n at *
      have En := Lib.hid en
      have hin : inB (n : Int) 4 64 = true := by unfold inB; simp; omega
      have hms2 : (s.size : Int) < (m : Int) + (n : Int) := by omega
      clear hn en hCG hle
      go_enter Try.func11, Try.ntmps11
      go_wp2_with fail
      rw [show (m : Int) + 2 = ((m + 2 : Nat) : Int) by omega]
      refine (c_l1At s (m + 2) _ (by omega) hs').mono ?_
      rintro e w' ⟨rfl, nd, rfl⟩
      rw [En.out]
      go_wp2_with fail
      refine (c_l6In (n : Int) 4 64 _).mono ?_
      rintro e w' ⟨rfl, rfl⟩
      go_wp2
      exact bodyPost_ret (v := cgNo) (by simp [cgNo, results, Try.results11, go_sem]) rfl ⟨rfl, (((below_drewN ((Below.refl w.heap.size w).alloc (Nat.le_refl _) _) _).setCell (Nat.le_refl _) _).setCell (Nat.le_refl _) _).setCell (Nat.le_refl _) _⟩
    · have htx := cgText_size s m g1 (by omega)
      have hbad : s.size < m + (cgText s m).size ∨ (m + (cgText s m).size ≤ s.size ∧ ((s.extract m (m + (cgText s m).size)).toList == (cgText s m).toList) = false) := by
        by_cases h2 : s.size < cgEnd s m
        · exact .inl (by omega)
        · refine .inr ⟨by omega, ?_⟩
          rw [htx]
          cases e : ((s.extract m (cgEnd s m)).toList == (cgText s m).toList) with
          | false => rfl
          | true =>
            have e2 : s.extract m (cgEnd s m) = cgText s m := by
              rw [tl, tl] at e
              exact ByteArray.ext (Array.toList_inj.1 (by simpa using e))
            exact absurd ((CG_text s m).2 ⟨by omega, g1, g2, by omega, e2⟩) hCG
      obtain ⟨r2, r3⟩ := byAt_range s m
      obtain ⟨r4, r5⟩ := byAt_range s (m + 1)
      have hbs : (s.extract (m + 4) (m + cgN s m)).size ≤ 60 := by rw [size_extract _ _ _ (by omega)]; omega
      have htd : cgText s m = cput (byAt s m) (byAt s (m + 1)) (s.extract (m + 4) (m + cgN s m)) := rfl
      have htb : (cgText s m).size ≤ 100 := by unfold cgText; rw [cput_size]; unfold padN; omega
      clear htx hCG hle
      generalize hn : cgN s m = n at *
      generalize hT : cgText s m = T at *
      have e1 := byAt_get s m hal0
      have e2 := byAt_get s (m + 1) hal
      have En := Lib.hid en
      have Td := Lib.hid htd
      have hin : inB (n : Int) 4 64 = true := by unfold inB; simp; omega
      have hms2 : ¬ (s.size : Int) < (m : Int) + (n : Int) := by omega
      have hbad2 := Lib.hid hbad
      clear hn en htd hT hbad
      go_enter Try.func11, Try.ntmps11
      go_wp2_with fail
      rw [show (m : Int) + 2 = ((m + 2 : Nat) : Int) by omega]
      refine (c_l1At s (m + 2) _ (by omega) hs').mono ?_
      rintro e w' ⟨rfl, nd, rfl⟩
      rw [En.out]
      go_wp2_with fail
      refine (c_l6In (n : Int) 4 64 _).mono ?_
      rintro e w' ⟨rfl, rfl⟩
      have q1 : (0 : Int) ≤ (m : Int) := by omega
      have q2 : (m : Int) < (s.size : Int) := by omega
      have q3 : IntKind.i64.wrap ((m : Int) + 1) = (m : Int) + 1 := IntWalk.i64_in _ (by omega)
      have q4 : (0 : Int) ≤ (m : Int) + 1 := by omega
      have q5 : (m : Int) + 1 < (s.size : Int) := by omega
      have q6 : ((m : Int) + 1).toNat = m + 1 := by omega
      have q7 : IntKind.i64.wrap ((m : Int) + 4) = (m : Int) + 4 := IntWalk.i64_in _ (by omega)
      have q8 : IntKind.i64.wrap ((m : Int) + (n : Int)) = (m : Int) + (n : Int) := IntWalk.i64_in _ (by omega)
      have q9 : ((m : Int) + 4).toNat = m + 4 := by omega
      have q10 : ((m : Int) + (n : Int)).toNat = m + n := by omega
      have q11 : IntKind.i64.wrap (byAt s m) = byAt s m := IntWalk.i64_in _ (by omega)
      have q12 : IntKind.i64.wrap (byAt s (m + 1)) = byAt s (m + 1) := IntWalk.i64_in _ (by omega)
      go_wp2_with fail
      go_region
      all_goals go_wp2_with fail
      all_goals
        refine (c_l11Put (byAt s m) (byAt s (m + 1)) (s.extract (m + 4) (m + n)) _ r2 r3 r4 r5 hbs).mono ?_
        rintro e u ⟨rfl, h2⟩
        rw [← Td.out]
        have hs1 : ((w.alloc (.cells #[.int .i64 0, .int .i64 0, .string ⟨#[]⟩] 26)).drewN (nd + 1)).heap.size = w.heap.size + 1 := by simp
        have hR : Blk u w.heap.size 26 #[.int .i64 0, .int .i64 0, .string ⟨#[]⟩] := Blk.below (Blk.alloc (w := (w.alloc (.cells #[.int .i64 0, .int .i64 0, .string ⟨#[]⟩] 26)).drewN (nd + 1)) (Blk.new w _ _) _) h2 (by simp; omega)
        have B0 : Below w.heap.size w u := below_step (((below_drewN ((Below.refl w.heap.size w).alloc (Nat.le_refl _) _) _).alloc (by simp) _)) (by simp; omega) h2
        have HB := Lib.hid B0
        clear B0 h2 hs1
        obtain ⟨c0, c1, c2, c3, c4, c5⟩ := hR.get3
        clear hR
        rcases hbad2.out with hb | ⟨hb, hb2⟩
        · have hb3 : (s.size : Int) < (m : Int) + (T.size : Int) := by omega
          go_wp2
          exact bodyPost_ret (v := cgNo) (by simp [cgNo, results, Try.results11, go_sem, c0, c1, c2]) rfl ⟨rfl, ((HB.out.setCell (Nat.le_refl _) _).setCell (Nat.le_refl _) _).setCell (Nat.le_refl _) _⟩
        · have hb3 : (m : Int) + (T.size : Int) ≤ (s.size : Int) := by omega
          have hte : ((m : Int) + (T.size : Int)).toNat = m + T.size := by omega
          go_wp2
          exact bodyPost_ret (v := cgNo) (by simp [cgNo, results, Try.results11, go_sem, c0, c1, c2]) rfl ⟨rfl, ((HB.out.setCell (Nat.le_refl _) _).setCell (Nat.le_refl _) _).setCell (Nat.le_refl _) _⟩
  · generalize hn : cgN s m = n at *
    have En := Lib.hid en
    have hin : inB (n : Int) 4 64 = false := by unfold inB; simp; omega
    clear hn en hCG hle
    go_enter Try.func11, Try.ntmps11
    go_wp2_with fail
    rw [show (m : Int) + 2 = ((m + 2 : Nat) : Int) by omega]
    refine (c_l1At s (m + 2) _ (by omega) hs').mono ?_
    rintro e w' ⟨rfl, nd, rfl⟩
    rw [En.out]
    go_wp2_with fail
    refine (c_l6In (n : Int) 4 64 _).mono ?_
    rintro e w' ⟨rfl, rfl⟩
    go_wp2
    exact bodyPost_ret (v := cgNo) (by simp [cgNo, results, Try.results11, go_sem]) rfl ⟨rfl, (((below_drewN ((Below.refl w.heap.size w).alloc (Nat.le_refl _) _) _).setCell (Nat.le_refl _) _).setCell (Nat.le_refl _) _).setCell (Nat.le_refl _) _⟩
end Go.Proofs.Ytgikbnldbbeinaa
