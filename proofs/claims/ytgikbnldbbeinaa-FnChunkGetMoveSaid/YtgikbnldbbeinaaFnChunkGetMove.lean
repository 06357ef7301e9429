/-
  A chunk may be anywhere: for every code. No condition.
-/
import Derived.Test.YtgikbnldbbeinaaDrawCG
import Derived.Test.YtgikbnldbbeinaaCGLaw
namespace Go.Proofs.Ytgikbnldbbeinaa.fnChunkGetMove
open Go.ChangeShapes Go.WideShapes Go.ChangeAt Go.RowKit
open Go.ChangeMaps (open_string shut_string)
set_option linter.unusedVariables false
set_option linter.unusedSimpArgs false
theorem walk (a0 : Option Addr) (n0 c0 : Nat) (w : World) (w0 : Code w a0 n0 c0) :
    Calls Try.prog 5 #[.slice a0 n0 c0] w fun e w' => e = .returned (.bool true) ∧ Below w.heap.size w w' := by
  have hc := w0.2.1
  unfold maxLen at hc
  by_cases hbig : 1048576 < n0
  · go_enter Try.func5, Try.ntmps5
    go_wp2
    go_ret
    exact ⟨rfl, Below.refl _ _⟩
  go_enter Try.func5, Try.ntmps5
  go_wp2_with fail
  refine (c_DrawChunkGet a0 n0 c0 _ w0).mono ?_
  rintro e w1 ⟨s, at1, rfl, hs, ha0, ha1, h1⟩
  have B1 := Lib.hid h1
  clear h1
  rcases CG_or s at1 with ⟨a, rfl, hCG⟩ | hno
  rotate_left
  · have HN := Lib.hid hno
    clear hno
    go_wp2_with fail
    refine (c_ChunkGet_no s at1 _ (by omega) HN.out).mono ?_
    rintro e w2 ⟨rfl, h2⟩
    simp only [cgNo]
    have B2 := Lib.hid (below_step B1.out B1.out.size h2)
    clear h2 B1
    go_wp2_with fail
    refine (c_sChunkGet_no s at1 _ (by omega) HN.out).mono ?_
    rintro e w3 ⟨rfl, h3⟩
    simp only [cgNo]
    obtain ⟨c0, c1, c2, hlt⟩ := box3 h3
    have B3 := Lib.hid (below_step (B2.out.alloc B2.out.size _) (Nat.le_trans B2.out.size (by simp)) h3)
    clear h3 B2
    go_wp2
    go_ret
    exact ⟨rfl, B3.out.alloc B3.out.size _⟩
  have hq : (((cgEnd s a : Nat) : Int) != ((cgEnd s a : Nat) : Int)) = false := by simp
  have hsz := hCG.2.2.2.1
  have hlow : a + 4 ≤ cgEnd s a := by have := hCG.2.1; unfold cgEnd; omega
  have HC := Lib.hid hCG
  clear hCG
  go_wp2_with fail
  refine (c_ChunkGet_yes s a _ (by omega) HC.out).mono ?_
  rintro e w2 ⟨rfl, h2⟩
  simp only [cgYes]
  have B2 := Lib.hid (below_step B1.out B1.out.size h2)
  clear h2 B1
  go_wp2_with fail
  refine (c_sChunkGet_yes s a _ (by omega) HC.out).mono ?_
  rintro e w3 ⟨rfl, h3⟩
  simp only [cgYes]
  obtain ⟨c0, c1, c2, hlt⟩ := box3 h3
  have B3 := Lib.hid (below_step (B2.out.alloc B2.out.size _) (Nat.le_trans B2.out.size (by simp)) h3)
  clear h3 B2
  obtain ⟨hm1, hm2⟩ := CG_shift s ⟨#[97, 98, 99]⟩ a HC.out
  have hx3 : (⟨#[97, 98, 99]⟩ : ByteArray).size = 3 := rfl
  rw [hx3] at hm1 hm2
  have hcs : ((⟨#[97, 98, 99]⟩ : ByteArray) ++ s).size ≤ 2000000 := by rw [ByteArray.size_append, hx3]; omega
  have hxl : ¬ 9223372036854775807 < 3 + s.size := by omega
  have HM := Lib.hid hm1
  have HY := Lib.hid hm2
  have hq3 : (((cgEnd s a + 3 : Nat) : Int) == ((cgEnd s a : Nat) : Int) + 3) = true := by simp
  have hlt3 : w2.heap.size < (w3.alloc (.cells #[.int .i64 (byAt s a), .int .i64 (byAt s (a + 1)), .string (s.extract (a + 4) (a + cgN s a))] 26)).heap.size := by simp; omega
  clear hm1 hm2 hx3
  go_wp2_with fail
  rw [show (a : Int) + 3 = ((a + 3 : Nat) : Int) by omega]
  refine (c_ChunkGet_yes _ (a + 3) _ hcs HM.out).mono ?_
  rintro e w4 ⟨rfl, h4⟩
  rw [HY.out]
  have d0 := keep1 h4 hlt3 (by rw [World.cell?_alloc_lt _ _ _ (by exact hlt)]; exact c0)
  have d1 := keep1 h4 hlt3 (by rw [World.cell?_alloc_lt _ _ _ (by exact hlt)]; exact c1)
  have d2 := keep1 h4 hlt3 (by rw [World.cell?_alloc_lt _ _ _ (by exact hlt)]; exact c2)
  have hlt4 := Nat.lt_of_lt_of_le hlt3 h4.size
  have B4 := Lib.hid (below_step (B3.out.alloc B3.out.size _) (Nat.le_trans B3.out.size (by simp)) h4)
  clear h4 B3 c0 c1 c2 HY HM
  go_wp2
  go_ret
  exact ⟨rfl, B4.out.alloc B4.out.size _⟩

/-! ### The row's step -/
theorem own : ownKnob Try.prog.godebug = none := by kernel_rfl
theorem laidOut : laidOutB Try.prog = true := by kernel_rfl
set_option maxRecDepth 100000 in
theorem lifted (os : Os) (started : os.Started) (H : Type) (enc : TypeId × Value → H) :
    ReturnsInHanded {} Try.checked os 5 .any (Rows.fnChunkGetMoveSpec.pre6 enc Try.prog Try.f5 Rows.fnChunkGetMoveRow.domain false) (Rows.fnChunkGetMoveSpec.post enc Try.prog Try.f5 false true false false) := by
  refine returnsInHanded_of_change (C := Try.checked) own started (by kernel_rfl) Try.func5
    (ChangeSpec.witness6 (enc := enc) (C := Try.checked) false ⟨#[], #[.slice none 0 0], []⟩ 8 (by kernel_rfl) (by kernel_rfl) (by kernel_rfl) (by kernel_rfl)) ?_
  intro W base args ds gs before hval0 hW hcnd _
  have hval : ∀ (j : Nat) t v, Try.f5.params[j]? = some t → args[j]? = some v → Value.okWide Try.prog W .any base t v := hval0
  have hW' := hW
  obtain ⟨p, q, hA0, hV, rfl, hfz, hnd⟩ := hW
  have hA : DataW.TrodAll enc Try.prog W 0 (fun _ => true) true Try.f5.params.toList args.toList ds p := hA0
  rw [Try.params5] at hA hval
  obtain ⟨v0, vs0, d0, ds0, p0, q0, hargs, rfl, rfl, h0, r0⟩ := trodAll_cons hA
  obtain ⟨rfl, rfl, rfl⟩ := trodAll_nil r0
  obtain rfl : args = #[v0] := by cases args; simp_all
  obtain ⟨rfl, rfl⟩ := trodVars_none hV
  have k0 := h0
  have lt0 : ∀ x ∈ p0, x.block < W.heap.size := by obtain ⟨m, hm⟩ := k0; exact DataW.trod_lt m _ _ _ hm
  obtain ⟨a0, n0, c0, rfl⟩ := okWide_slice Try.underlying22 (hval 0 22 v0 rfl rfl)
  have w0 : Code W a0 n0 c0 := by obtain ⟨fuel, hf⟩ := h0; exact code_of Try.underlying22 Try.underlying5 (by kernel_rfl) hf
  clear hA0 hval0
  refine (walk a0 n0 c0 W w0).mono fun e W' ⟨he, bel⟩ => ?_
  subst he
  exact ⟨_, rfl, _, _, _, [], _, [], hW', trodAll_mk1 (shut_bool Try.underlying4 _), (trodAll_cons_mk (Below.trod laidOut (by kernel_rfl) (of_decide_eq_true (by kernel_rfl)) k0 bel lt0) trodAll_mk0), rfl, bel.frame _, fun h => by cases h⟩

theorem over : Rows.fnChunkGetMoveRow.holds Try.pinned (OpenSpec.ofChange Rows.fnChunkGetMoveSpec) :=
  OpenClaim.holds_of_wide 5 Try.f5 rfl rfl rfl rfl rfl rfl rfl ⟨rfl, rfl, rfl, rfl, rfl⟩ rfl rfl rfl rfl rfl (by kernel_rfl) Try.func5 (by kernel_rfl)
    (of_decide_eq_true (by kernel_rfl)) (by unfold Func.isWrapper; first | (rw [if_pos (by decide +kernel)]; kernel_rfl) | (rw [if_neg (by decide +kernel)]; exact ⟨rfl, rfl⟩))
    (fun os started H enc _ => lifted os started H enc)

/-- The statement. -/
theorem proved : Rows.FnChunkGetMoveSaid := over
#print axioms proved
end Go.Proofs.Ytgikbnldbbeinaa.fnChunkGetMove
