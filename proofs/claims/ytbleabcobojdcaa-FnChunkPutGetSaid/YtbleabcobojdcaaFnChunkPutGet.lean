/-
  A written chunk can be read: for every code. No condition.
-/
import Derived.Test.YtbleabcobojdcaaDrawCV
import Derived.Test.YtbleabcobojdcaaConv
import Derived.Test.YtbleabcobojdcaaChunkLaw
namespace Go.Proofs.Ytbleabcobojdcaa.fnChunkPutGet
open Go.ChangeShapes Go.WideShapes Go.ChangeAt Go.RowKit
open Go.ChangeMaps (open_string shut_string)
set_option linter.unusedVariables false
set_option linter.unusedSimpArgs false
theorem walk (a0 : Option Addr) (n0 c0 : Nat) (w : World) (w0 : Code w a0 n0 c0) :
    Calls Try.prog 14 #[.slice a0 n0 c0] w fun e w' => e = .returned (.bool true) ∧ Below w.heap.size w w' := by
  have hc := w0.2.1
  unfold maxLen at hc
  by_cases hbig : 1048576 < n0
  · go_enter Try.func14, Try.ntmps14
    go_wp2
    go_ret
    exact ⟨rfl, Below.refl _ _⟩
  go_enter Try.func14, Try.ntmps14
  go_wp2_with fail
  refine (c_DrawChunkPut a0 n0 c0 _ w0).mono ?_
  rintro e w1 ⟨x, y, s, rfl, hx0, hx1, hy0, hy1, hs, h1⟩
  have hs1 : s.size ≤ maxLen := by unfold maxLen; omega
  have he := chunkPutV_empty x y s
  have hq : ((chunkPutV x y s).toList == (chunkPutV x y s).toList) = true := by simp
  have B1 := Lib.hid h1
  clear h1
  go_wp2_with fail
  refine (c_ChunkPut x y s _ hs1).mono ?_
  rintro e w2 ⟨rfl, h2⟩
  obtain ⟨c0, c1, c2, hlt⟩ := box3 h2
  have B2 := Lib.hid (below_step (B1.out.alloc B1.out.size _) (Nat.le_trans B1.out.size (by simp)) h2)
  clear h2 B1
  go_wp2_with fail
  refine (c_sChunkPut x y s _ hs1).mono ?_
  rintro e w3 ⟨rfl, h3⟩
  have d0 := keep1 h3 hlt c0
  have d1 := keep1 h3 hlt c1
  have d2 := keep1 h3 hlt c2
  have hlt3 := Nat.lt_of_lt_of_le hlt h3.size
  have B3 := Lib.hid (below_step B2.out B2.out.size h3)
  clear h3 B2 c0 c1 c2
  cases hok : chunkOk x y s with
  | false =>
    rw [hok] at he
    go_wp2
    go_ret
    exact ⟨rfl, B3.out⟩
  | true =>
    rw [hok] at he
    have hcp := chunkPutV_ok hok
    unfold chunkOk at hok
    simp at hok
    obtain ⟨hk, hk1, hf, hf1, hb⟩ := hok
    rw [hcp] at he hq ⊢
    clear hcp
    obtain ⟨hCG, g1, g2, g3, g4, _⟩ := CG_of (cput x y s) 0 x y s hk hk1 hf hf1 hb (by omega) (fun i hi => by rw [Nat.zero_add])
    have hz := cput_size x y s
    have hpl : padN (4 + s.size) ≤ 3 := by unfold padN; omega
    rw [Nat.zero_add] at g4
    have hzb : (cput x y s).size ≤ 2000000 := by omega
    have hY : cgYes (cput x y s) 0 = .tuple #[.agg #[.int .i64 x, .int .i64 y, .string s], .int .i64 ((cput x y s).size : Nat), .bool true] := by
      unfold cgYes
      rw [g1, g2, g3, g4]
    have HY := Lib.hid hY
    have HC := Lib.hid hCG
    clear hY hCG g1 g2 g3 g4 hz hpl
    go_wp2_with fail
    refine (c_ChunkGet_yes (cput x y s) 0 _ hzb HC.out).mono ?_
    rintro e w4 ⟨rfl, h4⟩
    rw [HY.out]
    have e0 := keep1 h4 hlt3 d0
    have e1 := keep1 h4 hlt3 d1
    have e2 := keep1 h4 hlt3 d2
    have hlt4 := Nat.lt_of_lt_of_le hlt3 h4.size
    have B4 := Lib.hid (below_step B3.out B3.out.size h4)
    clear h4 B3 d0 d1 d2 HY HC
    go_wp2
    go_ret
    exact ⟨rfl, B4.out.alloc B4.out.size _⟩

/-! ### The row's step -/
theorem own : ownKnob Try.prog.godebug = none := by kernel_rfl
theorem laidOut : laidOutB Try.prog = true := by kernel_rfl
set_option maxRecDepth 100000 in
theorem lifted (os : Os) (started : os.Started) (H : Type) (enc : TypeId × Value → H) :
    ReturnsInHanded {} Try.checked os 14 .any (Rows.fnChunkPutGetSpec.pre6 enc Try.prog Try.f14 Rows.fnChunkPutGetRow.domain false) (Rows.fnChunkPutGetSpec.post enc Try.prog Try.f14 false true false false) := by
  refine returnsInHanded_of_change (C := Try.checked) own started (by kernel_rfl) Try.func14
    (ChangeSpec.witness6 (enc := enc) (C := Try.checked) false ⟨#[], #[.slice none 0 0], []⟩ 8 (by kernel_rfl) (by kernel_rfl) (by kernel_rfl) (by kernel_rfl)) ?_
  intro W base args ds gs before hval0 hW hcnd _
  have hval : ∀ (j : Nat) t v, Try.f14.params[j]? = some t → args[j]? = some v → Value.okWide Try.prog W .any base t v := hval0
  have hW' := hW
  obtain ⟨p, q, hA0, hV, rfl, hfz, hnd⟩ := hW
  have hA : DataW.TrodAll enc Try.prog W 0 (fun _ => true) true Try.f14.params.toList args.toList ds p := hA0
  rw [Try.params14] at hA hval
  obtain ⟨v0, vs0, d0, ds0, p0, q0, hargs, rfl, rfl, h0, r0⟩ := trodAll_cons hA
  obtain ⟨rfl, rfl, rfl⟩ := trodAll_nil r0
  obtain rfl : args = #[v0] := by cases args; simp_all
  obtain ⟨rfl, rfl⟩ := trodVars_none hV
  have k0 := h0
  have lt0 : ∀ x ∈ p0, x.block < W.heap.size := by obtain ⟨m, hm⟩ := k0; exact DataW.trod_lt m _ _ _ hm
  obtain ⟨a0, n0, c0, rfl⟩ := okWide_slice Try.underlying31 (hval 0 31 v0 rfl rfl)
  have w0 : Code W a0 n0 c0 := by obtain ⟨fuel, hf⟩ := h0; exact code_of Try.underlying31 Try.underlying5 (by kernel_rfl) hf
  clear hA0 hval0
  refine (walk a0 n0 c0 W w0).mono fun e W' ⟨he, bel⟩ => ?_
  subst he
  exact ⟨_, rfl, _, _, _, [], _, [], hW', trodAll_mk1 (shut_bool Try.underlying4 _), (trodAll_cons_mk (Below.trod laidOut (by kernel_rfl) (of_decide_eq_true (by kernel_rfl)) k0 bel lt0) trodAll_mk0), rfl, bel.frame _, fun h => by cases h⟩

theorem over : Rows.fnChunkPutGetRow.holds Try.pinned (OpenSpec.ofChange Rows.fnChunkPutGetSpec) :=
  OpenClaim.holds_of_wide 14 Try.f14 rfl rfl rfl rfl rfl rfl rfl ⟨rfl, rfl, rfl, rfl, rfl⟩ rfl rfl rfl rfl rfl (by kernel_rfl) Try.func14 (by kernel_rfl)
    (of_decide_eq_true (by kernel_rfl)) (by unfold Func.isWrapper; first | (rw [if_pos (by decide +kernel)]; kernel_rfl) | (rw [if_neg (by decide +kernel)]; exact ⟨rfl, rfl⟩))
    (fun os started H enc _ => lifted os started H enc)

/-- The statement. -/
theorem proved : Rows.FnChunkPutGetSaid := over
#print axioms proved
end Go.Proofs.Ytbleabcobojdcaa.fnChunkPutGet
