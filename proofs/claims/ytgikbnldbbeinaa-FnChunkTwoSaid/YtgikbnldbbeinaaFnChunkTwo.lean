/-
  Chunks follow each other: for all codes. No condition.
-/
import Derived.Test.YtgikbnldbbeinaaDrawCG
import Derived.Test.YtgikbnldbbeinaaCGLaw
import Derived.Test.YtgikbnldbbeinaaDrawCV
namespace Go.Proofs.Ytgikbnldbbeinaa.fnChunkTwo
open Go.ChangeShapes Go.WideShapes Go.ChangeAt Go.RowKit
open Go.ChangeMaps (open_string shut_string)
set_option linter.unusedVariables false
set_option linter.unusedSimpArgs false
theorem walk (a0 : Option Addr) (n0 c0 : Nat) (a1 : Option Addr) (n1 c1 : Nat) (w : World) (w0 : Code w a0 n0 c0) (w1 : Code w a1 n1 c1) :
    Calls Try.prog 8 #[.slice a0 n0 c0, .slice a1 n1 c1] w fun e w' => e = .returned (.bool true) ∧ Below w.heap.size w w' := by
  have hc := w0.2.1
  have hc' := w1.2.1
  unfold maxLen at hc hc'
  have hn := w0.1
  have hn' := w1.1
  have wcode := w1
  clear w1
  by_cases hbig : 1048576 < n0
  · go_enter Try.func8, Try.ntmps8
    go_wp2
    go_ret
    exact ⟨rfl, Below.refl _ _⟩
  by_cases hbig2 : 1048576 < n1
  · go_enter Try.func8, Try.ntmps8
    go_wp2
    go_ret
    exact ⟨rfl, Below.refl _ _⟩
  go_enter Try.func8, Try.ntmps8
  go_wp2_with fail
  refine (c_DrawChunkGet a0 n0 c0 _ w0).mono ?_
  rintro e w1 ⟨s, at1, rfl, hs, ha0, ha1, h1⟩
  have B1 := Lib.hid h1
  clear h1
  rcases CG_or s at1 with ⟨a, rfl, hCG⟩ | hno
  rotate_left
  · have HN := Lib.hid hno
    clear hno
    go_wp2_with fail
    refine (c_ChunkGet_no s at1 _ (by omega) HN.out).mono ?_
    rintro e w2 ⟨rfl, h2⟩
    simp only [cgNo]
    have B2 := Lib.hid (below_step B1.out B1.out.size h2)
    clear h2 B1
    go_wp2_with fail
    refine (c_sChunkGet_no s at1 _ (by omega) HN.out).mono ?_
    rintro e w3 ⟨rfl, h3⟩
    simp only [cgNo]
    obtain ⟨c0, c1, c2, hlt⟩ := box3 h3
    have B3 := Lib.hid (below_step (B2.out.alloc B2.out.size _) (Nat.le_trans B2.out.size (by simp)) h3)
    clear h3 B2
    go_wp2
    go_ret
    exact ⟨rfl, B3.out.alloc B3.out.size _⟩
  have hq : (((cgEnd s a : Nat) : Int) != ((cgEnd s a : Nat) : Int)) = false := by simp
  have hsz := hCG.2.2.2.1
  have hlow : a + 4 ≤ cgEnd s a := by have := hCG.2.1; unfold cgEnd; omega
  have HC := Lib.hid hCG
  clear hCG
  go_wp2_with fail
  refine (c_ChunkGet_yes s a _ (by omega) HC.out).mono ?_
  rintro e w2 ⟨rfl, h2⟩
  simp only [cgYes]
  have B2 := Lib.hid (below_step B1.out B1.out.size h2)
  clear h2 B1
  go_wp2_with fail
  refine (c_sChunkGet_yes s a _ (by omega) HC.out).mono ?_
  rintro e w3 ⟨rfl, h3⟩
  simp only [cgYes]
  obtain ⟨c0, c1, c2, hlt⟩ := box3 h3
  have B3 := Lib.hid (below_step (B2.out.alloc B2.out.size _) (Nat.le_trans B2.out.size (by simp)) h3)
  clear h3 B2
  have hes : (s.extract 0 (cgEnd s a)).size = cgEnd s a := size_extract s 0 _ hsz
  clear HC
  generalize hbd : s.extract (a + 4) (a + cgN s a) = bd at *
  clear hbd
  generalize hEd : cgEnd s a = E at *
  clear hEd
  have hel : (s.extract 0 E).size ≤ 200 := by omega
  have HES := Lib.hid hes
  clear hes
  have BX := Lib.hid (B3.out.alloc B3.out.size (.cells #[.int .i64 (byAt s a), .int .i64 (byAt s (a + 1)), .string bd] 26))
  have HB := BX.out.size
  clear B3
  go_wp2_with fail
  refine (c_DrawChunkPut a1 n1 _ _ (wcode.below BX.out)).mono ?_
  rintro e w4 ⟨x, y, t, rfl, hx0, hx1, hy0, hy1, ht, h4⟩
  have B4 := Lib.hid (below_step BX.out HB h4)
  clear h4 BX HB
  have ht1 : t.size ≤ maxLen := by unfold maxLen; omega
  go_wp2_with fail
  refine (c_ChunkPut x y t _ ht1).mono ?_
  rintro e w5 ⟨rfl, h5⟩
  obtain ⟨d0, d1, d2, hlt5⟩ := box3 h5
  have B5 := Lib.hid (below_step (B4.out.alloc B4.out.size _) (Nat.le_trans B4.out.size (by simp)) h5)
  clear h5 B4
  have q0 : (0 : Int) ≤ (E : Int) := by omega
  have q2 : (E : Int) ≤ (s.size : Int) := by omega
  have hemp := chunkPutV_empty x y t
  have htz := chunkPutV_size x y t
  cases hok : chunkOk x y t with
  | false =>
    rw [hok] at hemp
    rw [chunkPutV_no hok]
    have hxl : ¬ 9223372036854775807 < (s.extract 0 E).size + 0 := by omega
    have hap : s.extract 0 E ++ ⟨#[]⟩ = s.extract 0 E := app_empty _
    have hno : ∀ n : Nat, (E : Int) = n → ¬ CG (s.extract 0 E) n := by
      intro n e
      exact CG_end (s.extract 0 E) n (by rw [HES.out]; exact e)
    have HN := Lib.hid hno
    have HA := Lib.hid hap
    clear hno hap hemp htz
    go_wp2_with fail
    rw [HA.out]
    refine (c_ChunkGet_no (s.extract 0 E) (E : Int) _ (by omega) HN.out).mono ?_
    rintro e w6 ⟨rfl, h6⟩
    simp only [cgNo]
    have B6 := Lib.hid (below_step B5.out B5.out.size h6)
    clear h6 B5
    go_wp2
    go_ret
    exact ⟨rfl, B6.out.alloc B6.out.size _⟩
  | true =>
    rw [hok] at hemp
    have hcp := chunkPutV_ok hok
    rw [hcp] at hemp htz ⊢
    clear hcp
    unfold chunkOk at hok
    simp at hok
    obtain ⟨hk, hk1, hf, hf1, hb⟩ := hok
    obtain ⟨hm1, hm2⟩ := CG_behind (s.extract 0 E) x y t hk hk1 hf hf1 hb
    rw [HES.out] at hm1 hm2
    have hcs : (s.extract 0 E ++ cput x y t).size ≤ 2000000 := by rw [ByteArray.size_append]; omega
    have hxl : ¬ 9223372036854775807 < (s.extract 0 E).size + (cput x y t).size := by omega
    have HM := Lib.hid hm1
    have HY := Lib.hid hm2
    have hbt : (t.toList == t.toList) = true := by simp
    have hq9 : (((E + (cput x y t).size : Nat) : Int) == (E : Int) + ((cput x y t).size : Int)) = true := by simp
    clear hm1 hm2
    go_wp2_with fail
    refine (c_ChunkGet_yes _ E _ hcs HM.out).mono ?_
    rintro e w6 ⟨rfl, h6⟩
    rw [HY.out]
    have e0 := keep1 h6 hlt5 d0
    have e1 := keep1 h6 hlt5 d1
    have e2 := keep1 h6 hlt5 d2
    have hlt6 := Nat.lt_of_lt_of_le hlt5 h6.size
    have B6 := Lib.hid (below_step B5.out B5.out.size h6)
    clear h6 B5 d0 d1 d2 HY HM
    go_wp2
    go_ret
    exact ⟨rfl, B6.out.alloc B6.out.size _⟩

/-! ### The row's step -/
theorem own : ownKnob Try.prog.godebug = none := by kernel_rfl
theorem laidOut : laidOutB Try.prog = true := by kernel_rfl
set_option maxRecDepth 100000 in
theorem lifted (os : Os) (started : os.Started) (H : Type) (enc : TypeId × Value → H) :
    ReturnsInHanded {} Try.checked os 8 .any (Rows.fnChunkTwoSpec.pre6 enc Try.prog Try.f8 Rows.fnChunkTwoRow.domain false) (Rows.fnChunkTwoSpec.post enc Try.prog Try.f8 false true false false) := by
  refine returnsInHanded_of_change (C := Try.checked) own started (by kernel_rfl) Try.func8
    (ChangeSpec.witness6 (enc := enc) (C := Try.checked) false ⟨#[], #[.slice none 0 0, .slice none 0 0], []⟩ 8 (by kernel_rfl) (by kernel_rfl) (by kernel_rfl) (by kernel_rfl)) ?_
  intro W base args ds gs before hval0 hW hcnd _
  have hval : ∀ (j : Nat) t v, Try.f8.params[j]? = some t → args[j]? = some v → Value.okWide Try.prog W .any base t v := hval0
  have hW' := hW
  obtain ⟨p, q, hA0, hV, rfl, hfz, hnd⟩ := hW
  have hA : DataW.TrodAll enc Try.prog W 0 (fun _ => true) true Try.f8.params.toList args.toList ds p := hA0
  rw [Try.params8] at hA hval
  obtain ⟨v0, vs0, d0, ds0, p0, q0, hargs, rfl, rfl, h0, r0⟩ := trodAll_cons hA
  obtain ⟨v1, vs1, d1, ds1, p1, q1, rfl, rfl, rfl, h1, r1⟩ := trodAll_cons r0
  obtain ⟨rfl, rfl, rfl⟩ := trodAll_nil r1
  obtain rfl : args = #[v0, v1] := by cases args; simp_all
  obtain ⟨rfl, rfl⟩ := trodVars_none hV
  have k0 := h0
  have lt0 : ∀ x ∈ p0, x.block < W.heap.size := by obtain ⟨m, hm⟩ := k0; exact DataW.trod_lt m _ _ _ hm
  obtain ⟨a0, n0, c0, rfl⟩ := okWide_slice Try.underlying22 (hval 0 22 v0 rfl rfl)
  have w0 : Code W a0 n0 c0 := by obtain ⟨fuel, hf⟩ := h0; exact code_of Try.underlying22 Try.underlying5 (by kernel_rfl) hf
  have k1 := h1
  have lt1 : ∀ x ∈ p1, x.block < W.heap.size := by obtain ⟨m, hm⟩ := k1; exact DataW.trod_lt m _ _ _ hm
  obtain ⟨a1, n1, c1, rfl⟩ := okWide_slice Try.underlying22 (hval 1 22 v1 rfl rfl)
  have w1 : Code W a1 n1 c1 := by obtain ⟨fuel, hf⟩ := h1; exact code_of Try.underlying22 Try.underlying5 (by kernel_rfl) hf
  clear hA0 hval0
  refine (walk a0 n0 c0 a1 n1 c1 W w0 w1).mono fun e W' ⟨he, bel⟩ => ?_
  subst he
  exact ⟨_, rfl, _, _, _, [], _, [], hW', trodAll_mk1 (shut_bool Try.underlying4 _), (trodAll_cons_mk (Below.trod laidOut (by kernel_rfl) (of_decide_eq_true (by kernel_rfl)) k0 bel lt0) (trodAll_cons_mk (Below.trod laidOut (by kernel_rfl) (of_decide_eq_true (by kernel_rfl)) k1 bel lt1) trodAll_mk0)), rfl, bel.frame _, fun h => by cases h⟩

theorem over : Rows.fnChunkTwoRow.holds Try.pinned (OpenSpec.ofChange Rows.fnChunkTwoSpec) :=
  OpenClaim.holds_of_wide 8 Try.f8 rfl rfl rfl rfl rfl rfl rfl ⟨rfl, rfl, rfl, rfl, rfl⟩ rfl rfl rfl rfl rfl (by kernel_rfl) Try.func8 (by kernel_rfl)
    (of_decide_eq_true (by kernel_rfl)) (by unfold Func.isWrapper; first | (rw [if_pos (by decide +kernel)]; kernel_rfl) | (rw [if_neg (by decide +kernel)]; exact ⟨rfl, rfl⟩))
    (fun os started H enc _ => lifted os started H enc)

/-- The statement. -/
theorem proved : Rows.FnChunkTwoSaid := over
#print axioms proved
end Go.Proofs.Ytgikbnldbbeinaa.fnChunkTwo
