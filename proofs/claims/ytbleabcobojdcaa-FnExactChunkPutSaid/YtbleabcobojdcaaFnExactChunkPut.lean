/-
  The program's ChunkPut returns what the reference's returns, for every chunk. No condition.
-/
import Derived.Test.YtbleabcobojdcaaConv
import Derived.Test.YtbleabcobojdcaaOpen
namespace Go.Proofs.Ytbleabcobojdcaa.fnExactChunkPut
open Go.ChangeShapes Go.WideShapes Go.ChangeAt Go.RowKit
open Go.ChangeMaps (open_string shut_string)
set_option linter.unusedVariables false
set_option linter.unusedSimpArgs false
theorem walk (x0_0 : Int) (x0_1 : Int) (x0_2 : ByteArray) (w : World) (w0_0 : (Lit.int .i64 x0_0).wf = true) (w0_1 : (Lit.int .i64 x0_1).wf = true) (w0_2 : x0_2.size ≤ maxLen) :
    Calls Try.prog 7 #[.agg #[.int .i64 x0_0, .int .i64 x0_1, .string x0_2]] w fun e w' => e = .returned (.bool true) ∧ Below w.heap.size w w' := by
  clear w0_0 w0_1
  have hs := w0_2
  unfold maxLen at hs
  by_cases hb : (1048576 : Int) < x0_2.size
  · go_enter Try.func7, Try.ntmps7
    go_wp2_with fail
    refine (c_szChunk x0_0 x0_1 x0_2 1048576 _ w0_2 (by omega) (by omega)).mono ?_
    rintro e w1 ⟨rfl, h1⟩
    rw [if_pos hb]
    go_wp2
    go_ret
    exact ⟨rfl, below_step ((Below.refl _ _).alloc (Nat.le_refl _) _) (by simp) h1⟩
  · have hbb : ((chunkPutV x0_0 x0_1 x0_2).toList == (chunkPutV x0_0 x0_1 x0_2).toList) = true := by simp
    go_enter Try.func7, Try.ntmps7
    go_wp2_with fail
    refine (c_szChunk x0_0 x0_1 x0_2 1048576 _ w0_2 (by omega) (by omega)).mono ?_
    rintro e w1 ⟨rfl, h1⟩
    rw [if_neg (by omega)]
    obtain ⟨a0, a1, a2, hlt⟩ := box3 h1
    have B1 := Lib.hid (below_step ((Below.refl w.heap.size w).alloc (Nat.le_refl _) _) (by simp) h1)
    clear h1
    go_wp2_with fail
    refine (c_toChunk x0_0 x0_1 x0_2 _).mono ?_
    rintro e w2 ⟨rfl, h2⟩
    have b0 := keep1 h2 hlt a0
    have b1 := keep1 h2 hlt a1
    have b2 := keep1 h2 hlt a2
    have hlt2 := Nat.lt_of_lt_of_le hlt h2.size
    have B2 := Lib.hid (below_step B1.out B1.out.size h2)
    clear h2 a0 a1 a2 hlt B1
    go_wp2_with fail
    refine (c_sChunkPut x0_0 x0_1 x0_2 _ w0_2).mono ?_
    rintro e w3 ⟨rfl, h3⟩
    have a0 := keep1 h3 hlt2 b0
    have a1 := keep1 h3 hlt2 b1
    have a2 := keep1 h3 hlt2 b2
    have hlt := Nat.lt_of_lt_of_le hlt2 h3.size
    have B3 := Lib.hid (below_step B2.out B2.out.size h3)
    clear h3 b0 b1 b2 hlt2 B2
    go_wp2_with fail
    refine (c_toChunk x0_0 x0_1 x0_2 _).mono ?_
    rintro e w4 ⟨rfl, h4⟩
    have B4 := Lib.hid (below_step B3.out B3.out.size h4)
    clear h4 a0 a1 a2 hlt B3
    go_wp2_with fail
    refine (c_ChunkPut x0_0 x0_1 x0_2 _ w0_2).mono ?_
    rintro e w5 ⟨rfl, h5⟩
    have B5 := Lib.hid (below_step B4.out B4.out.size h5)
    clear h5 B4
    go_wp2
    go_ret
    exact ⟨rfl, B5.out⟩

/-! ### The row's step -/
theorem own : ownKnob Try.prog.godebug = none := by kernel_rfl
theorem laidOut : laidOutB Try.prog = true := by kernel_rfl
set_option maxRecDepth 100000 in
theorem lifted (os : Os) (started : os.Started) (H : Type) (enc : TypeId × Value → H) :
    ReturnsInHanded {} Try.checked os 7 .any (Rows.fnExactChunkPutSpec.pre6 enc Try.prog Try.f7 Rows.fnExactChunkPutRow.domain false) (Rows.fnExactChunkPutSpec.post enc Try.prog Try.f7 false true false false) := by
  refine returnsInHanded_of_change (C := Try.checked) own started (by kernel_rfl) Try.func7
    (ChangeSpec.witness6 (enc := enc) (C := Try.checked) false ⟨#[], #[.agg #[.int .i64 0, .int .i64 0, .string ⟨#[]⟩]], []⟩ 8 (by kernel_rfl) (by kernel_rfl) (by kernel_rfl) (by kernel_rfl)) ?_
  intro W base args ds gs before hval0 hW hcnd _
  have hval : ∀ (j : Nat) t v, Try.f7.params[j]? = some t → args[j]? = some v → Value.okWide Try.prog W .any base t v := hval0
  have hW' := hW
  obtain ⟨p, q, hA0, hV, rfl, hfz, hnd⟩ := hW
  have hA : DataW.TrodAll enc Try.prog W 0 (fun _ => true) true Try.f7.params.toList args.toList ds p := hA0
  rw [Try.params7] at hA hval
  obtain ⟨v0, vs0, d0, ds0, p0, q0, hargs, rfl, rfl, h0, r0⟩ := trodAll_cons hA
  obtain ⟨rfl, rfl, rfl⟩ := trodAll_nil r0
  obtain rfl : args = #[v0] := by cases args; simp_all
  obtain ⟨rfl, rfl⟩ := trodVars_none hV
  have k0 := h0
  have lt0 : ∀ x ∈ p0, x.block < W.heap.size := by obtain ⟨m, hm⟩ := k0; exact DataW.trod_lt m _ _ _ hm
  obtain ⟨cs0, m0, u0, hz0, hf0⟩ := open_fields Try.underlying25 (by kernel_rfl) (by kernel_rfl) (hval 0 25 v0 rfl rfl) h0
  subst u0
  obtain ⟨u0_0, y0_0, g0_0, t0_0, z0_0⟩ := hf0 0 _ rfl
  obtain ⟨x0_0, rfl, w0_0⟩ := int_field Try.underlying3 t0_0
  obtain ⟨u0_1, y0_1, g0_1, t0_1, z0_1⟩ := hf0 1 _ rfl
  obtain ⟨x0_1, rfl, w0_1⟩ := int_field Try.underlying3 t0_1
  obtain ⟨u0_2, y0_2, g0_2, t0_2, z0_2⟩ := hf0 2 _ rfl
  obtain ⟨x0_2, rfl, w0_2⟩ := string_field Try.underlying9 t0_2
  obtain rfl := arr3 hz0 g0_0 g0_1 g0_2
  clear hA0 hval0
  refine (walk x0_0 x0_1 x0_2 W w0_0 w0_1 w0_2).mono fun e W' ⟨he, bel⟩ => ?_
  subst he
  exact ⟨_, rfl, _, _, _, [], _, [], hW', trodAll_mk1 (shut_bool Try.underlying4 _), (trodAll_cons_mk (Below.trod laidOut (by kernel_rfl) (of_decide_eq_true (by kernel_rfl)) k0 bel lt0) trodAll_mk0), rfl, bel.frame _, fun h => by cases h⟩

theorem over : Rows.fnExactChunkPutRow.holds Try.pinned (OpenSpec.ofChange Rows.fnExactChunkPutSpec) :=
  OpenClaim.holds_of_wide 7 Try.f7 rfl rfl rfl rfl rfl rfl rfl ⟨rfl, rfl, rfl, rfl, rfl⟩ rfl rfl rfl rfl rfl (by kernel_rfl) Try.func7 (by kernel_rfl)
    (of_decide_eq_true (by kernel_rfl)) (by unfold Func.isWrapper; first | (rw [if_pos (by decide +kernel)]; kernel_rfl) | (rw [if_neg (by decide +kernel)]; exact ⟨rfl, rfl⟩))
    (fun os started H enc _ => lifted os started H enc)

/-- The statement. -/
theorem proved : Rows.FnExactChunkPutSaid := over
#print axioms proved
end Go.Proofs.Ytbleabcobojdcaa.fnExactChunkPut
