/-
  The program's ChunkGet returns what the reference's returns, for every text and every place. No condition.
-/
import Derived.Test.YtbleabcobojdcaaSChunkGet
import Derived.Test.YtbleabcobojdcaaConv
import Derived.Test.YtbleabcobojdcaaOpen
namespace Go.Proofs.Ytbleabcobojdcaa.fnExactChunkGet
open Go.ChangeShapes Go.WideShapes Go.ChangeAt Go.RowKit
open Go.ChangeMaps (open_string shut_string)
set_option linter.unusedVariables false
set_option linter.unusedSimpArgs false
theorem walk (x0 : ByteArray) (x1 : Int) (w : World) (w0 : x0.size ≤ maxLen) (w1 : (Lit.int .i64 x1).wf = true) :
    Calls Try.prog 13 #[.string x0, .int .i64 x1] w fun e w' => e = .returned (.bool true) ∧ Below w.heap.size w w' := by
  have hs := w0
  unfold maxLen at hs
  by_cases hbig : 1048576 < x0.size
  · go_enter Try.func13, Try.ntmps13
    go_wp2
    go_ret
    exact ⟨rfl, Below.refl _ _⟩
  rcases CG_or x0 x1 with ⟨a, rfl, hCG⟩ | hno
  · have hq : (((cgEnd x0 a : Nat) : Int) != ((cgEnd x0 a : Nat) : Int)) = false := by simp
    have HC := Lib.hid hCG
    clear hCG
    go_enter Try.func13, Try.ntmps13
    go_wp2_with fail
    refine (c_sChunkGet_yes x0 a _ (by omega) HC.out).mono ?_
    rintro e w1 ⟨rfl, h1⟩
    simp only [cgYes]
    go_wp2_with fail
    refine (c_ChunkGet_yes x0 a _ (by omega) HC.out).mono ?_
    rintro e w2 ⟨rfl, h2⟩
    simp only [cgYes]
    obtain ⟨c0, c1, c2, hlt⟩ := box3 h2
    have B2 := Lib.hid (below_step (h1.alloc h1.size _) (Nat.le_trans h1.size (by simp)) h2)
    clear h1 h2
    go_wp2_with fail
    refine (c_eqChunk _ _ _ _ _ _ _ ⟨rfl, rfl, rfl⟩).mono ?_
    rintro e w3 ⟨rfl, h3⟩
    have B3 := Lib.hid (below_step (B2.out.alloc B2.out.size _) (Nat.le_trans B2.out.size (by simp)) h3)
    clear h3 B2
    go_wp2
    go_ret
    exact ⟨rfl, B3.out⟩
  · have HN := Lib.hid hno
    clear hno
    go_enter Try.func13, Try.ntmps13
    go_wp2_with fail
    refine (c_sChunkGet_no x0 x1 _ (by omega) HN.out).mono ?_
    rintro e w1 ⟨rfl, h1⟩
    simp only [cgNo]
    go_wp2_with fail
    refine (c_ChunkGet_no x0 x1 _ (by omega) HN.out).mono ?_
    rintro e w2 ⟨rfl, h2⟩
    simp only [cgNo]
    obtain ⟨c0, c1, c2, hlt⟩ := box3 h2
    have B2 := Lib.hid (below_step (h1.alloc h1.size _) (Nat.le_trans h1.size (by simp)) h2)
    clear h1 h2
    go_wp2_with fail
    refine (c_eqChunk _ _ _ _ _ _ _ ⟨rfl, rfl, rfl⟩).mono ?_
    rintro e w3 ⟨rfl, h3⟩
    have B3 := Lib.hid (below_step (B2.out.alloc B2.out.size _) (Nat.le_trans B2.out.size (by simp)) h3)
    clear h3 B2
    go_wp2
    go_ret
    exact ⟨rfl, B3.out⟩

/-! ### The row's step -/
theorem own : ownKnob Try.prog.godebug = none := by kernel_rfl
theorem laidOut : laidOutB Try.prog = true := by kernel_rfl
set_option maxRecDepth 100000 in
theorem lifted (os : Os) (started : os.Started) (H : Type) (enc : TypeId × Value → H) :
    ReturnsInHanded {} Try.checked os 13 .any (Rows.fnExactChunkGetSpec.pre6 enc Try.prog Try.f13 Rows.fnExactChunkGetRow.domain false) (Rows.fnExactChunkGetSpec.post enc Try.prog Try.f13 false true false false) := by
  refine returnsInHanded_of_change (C := Try.checked) own started (by kernel_rfl) Try.func13
    (ChangeSpec.witness6 (enc := enc) (C := Try.checked) false ⟨#[], #[.string ⟨#[]⟩, .int .i64 0], []⟩ 8 (by kernel_rfl) (by kernel_rfl) (by kernel_rfl) (by kernel_rfl)) ?_
  intro W base args ds gs before hval0 hW hcnd _
  have hval : ∀ (j : Nat) t v, Try.f13.params[j]? = some t → args[j]? = some v → Value.okWide Try.prog W .any base t v := hval0
  have hW' := hW
  obtain ⟨p, q, hA0, hV, rfl, hfz, hnd⟩ := hW
  have hA : DataW.TrodAll enc Try.prog W 0 (fun _ => true) true Try.f13.params.toList args.toList ds p := hA0
  rw [Try.params13] at hA hval
  obtain ⟨v0, vs0, d0, ds0, p0, q0, hargs, rfl, rfl, h0, r0⟩ := trodAll_cons hA
  obtain ⟨v1, vs1, d1, ds1, p1, q1, rfl, rfl, rfl, h1, r1⟩ := trodAll_cons r0
  obtain ⟨rfl, rfl, rfl⟩ := trodAll_nil r1
  obtain rfl : args = #[v0, v1] := by cases args; simp_all
  obtain ⟨rfl, rfl⟩ := trodVars_none hV
  have k0 := h0
  have lt0 : ∀ x ∈ p0, x.block < W.heap.size := by obtain ⟨m, hm⟩ := k0; exact DataW.trod_lt m _ _ _ hm
  obtain ⟨x0, u0, w0⟩ : ∃ x : ByteArray, v0 = .string x ∧ x.size ≤ maxLen := by
    obtain ⟨x, e, _, _, hw⟩ := open_string Try.underlying9 (hval 0 9 v0 rfl rfl) h0; exact ⟨x, e, hw⟩
  subst u0
  have k1 := h1
  have lt1 : ∀ x ∈ p1, x.block < W.heap.size := by obtain ⟨m, hm⟩ := k1; exact DataW.trod_lt m _ _ _ hm
  obtain ⟨x1, u1, w1⟩ : ∃ x : Int, v1 = .int .i64 x ∧ (Lit.int .i64 x).wf = true := by
    obtain ⟨x, e, _, _, hw⟩ := open_int Try.underlying3 (hval 1 3 v1 rfl rfl) h1; exact ⟨x, e, hw⟩
  subst u1
  clear hA0 hval0
  refine (walk x0 x1 W w0 w1).mono fun e W' ⟨he, bel⟩ => ?_
  subst he
  exact ⟨_, rfl, _, _, _, [], _, [], hW', trodAll_mk1 (shut_bool Try.underlying4 _), (trodAll_cons_mk (Below.trod laidOut (by kernel_rfl) (of_decide_eq_true (by kernel_rfl)) k0 bel lt0) (trodAll_cons_mk (Below.trod laidOut (by kernel_rfl) (of_decide_eq_true (by kernel_rfl)) k1 bel lt1) trodAll_mk0)), rfl, bel.frame _, fun h => by cases h⟩

theorem over : Rows.fnExactChunkGetRow.holds Try.pinned (OpenSpec.ofChange Rows.fnExactChunkGetSpec) :=
  OpenClaim.holds_of_wide 13 Try.f13 rfl rfl rfl rfl rfl rfl rfl ⟨rfl, rfl, rfl, rfl, rfl⟩ rfl rfl rfl rfl rfl (by kernel_rfl) Try.func13 (by kernel_rfl)
    (of_decide_eq_true (by kernel_rfl)) (by unfold Func.isWrapper; first | (rw [if_pos (by decide +kernel)]; kernel_rfl) | (rw [if_neg (by decide +kernel)]; exact ⟨rfl, rfl⟩))
    (fun os started H enc _ => lifted os started H enc)

/-- The statement. -/
theorem proved : Rows.FnExactChunkGetSaid := over
#print axioms proved
end Go.Proofs.Ytbleabcobojdcaa.fnExactChunkGet
