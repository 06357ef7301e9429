/-
  Known kinds have names, and no others: for every code. No condition.
-/
import Derived.Test.YtbleabcobojdcaaKinds
namespace Go.Proofs.Ytbleabcobojdcaa.fnChunkName
open Go.ChangeShapes Go.WideShapes Go.ChangeAt Go.RowKit
open Go.ChangeMaps (open_string shut_string)
set_option linter.unusedVariables false
set_option linter.unusedSimpArgs false
/-- A name is empty exactly for the other kinds. -/
theorem named (k : Int) (h : -2 ≤ k) (h1 : k ≤ 16) : (cname k).toList.isEmpty = !(decide (0 ≤ k ∧ k ≤ 11) || (k == 14)) := by
  have h2 : k = -2 ∨ k = -1 ∨ k = 15 ∨ k = 16 ∨ (0 ≤ k ∧ k < 15) := by omega
  rcases h2 with rfl | rfl | rfl | rfl | ⟨h3, h4⟩
  · decide +kernel
  · decide +kernel
  · decide +kernel
  · decide +kernel
  rcases cname_cases k h3 h4 with rfl | rfl | rfl | rfl | rfl | rfl | rfl | rfl | rfl | rfl | rfl | rfl | rfl | rfl | rfl <;> decide +kernel
theorem walk (a0 : Option Addr) (n0 c0 : Nat) (w : World) (w0 : Code w a0 n0 c0) :
    Calls Try.prog 5 #[.slice a0 n0 c0] w fun e w' => e = .returned (.bool true) ∧ Below w.heap.size w w' := by
  have hc := w0.2.1
  unfold maxLen at hc
  by_cases hbig : 1048576 < n0
  · go_enter Try.func5, Try.ntmps5
    go_wp2
    go_ret
    exact ⟨rfl, Below.refl _ _⟩
  go_enter Try.func5, Try.ntmps5
  go_wp2_with fail
  refine (c_DrawChunkName a0 n0 c0 _ w0).mono ?_
  rintro e w1 ⟨k, rfl, hk, hk1, h1⟩
  have hn := named k hk hk1
  have hs : ((cname k).toList == (cname k).toList) = true := by simp
  have Hn := Lib.hid hn
  clear hn
  go_wp2_with fail
  refine (c_ChunkName k _).mono ?_
  rintro e w2 ⟨rfl, h2⟩
  have B2 := Lib.hid (below_step h1 h1.size h2)
  clear h1 h2
  go_wp2_with fail
  refine (c_sChunkName k _).mono ?_
  rintro e w3 ⟨rfl, h3⟩
  have B3 := Lib.hid (below_step B2.out B2.out.size h3)
  clear h3
  go_wp2
  all_goals
    go_ret
    refine ⟨ret_bool ?_, B3.out⟩
    rw [Hn.out]
    grind

/-! ### The row's step -/
theorem own : ownKnob Try.prog.godebug = none := by kernel_rfl
theorem laidOut : laidOutB Try.prog = true := by kernel_rfl
set_option maxRecDepth 100000 in
theorem lifted (os : Os) (started : os.Started) (H : Type) (enc : TypeId × Value → H) :
    ReturnsInHanded {} Try.checked os 5 .any (Rows.fnChunkNameSpec.pre6 enc Try.prog Try.f5 Rows.fnChunkNameRow.domain false) (Rows.fnChunkNameSpec.post enc Try.prog Try.f5 false true false false) := by
  refine returnsInHanded_of_change (C := Try.checked) own started (by kernel_rfl) Try.func5
    (ChangeSpec.witness6 (enc := enc) (C := Try.checked) false ⟨#[], #[.slice none 0 0], []⟩ 8 (by kernel_rfl) (by kernel_rfl) (by kernel_rfl) (by kernel_rfl)) ?_
  intro W base args ds gs before hval0 hW hcnd _
  have hval : ∀ (j : Nat) t v, Try.f5.params[j]? = some t → args[j]? = some v → Value.okWide Try.prog W .any base t v := hval0
  have hW' := hW
  obtain ⟨p, q, hA0, hV, rfl, hfz, hnd⟩ := hW
  have hA : DataW.TrodAll enc Try.prog W 0 (fun _ => true) true Try.f5.params.toList args.toList ds p := hA0
  rw [Try.params5] at hA hval
  obtain ⟨v0, vs0, d0, ds0, p0, q0, hargs, rfl, rfl, h0, r0⟩ := trodAll_cons hA
  obtain ⟨rfl, rfl, rfl⟩ := trodAll_nil r0
  obtain rfl : args = #[v0] := by cases args; simp_all
  obtain ⟨rfl, rfl⟩ := trodVars_none hV
  have k0 := h0
  have lt0 : ∀ x ∈ p0, x.block < W.heap.size := by obtain ⟨m, hm⟩ := k0; exact DataW.trod_lt m _ _ _ hm
  obtain ⟨a0, n0, c0, rfl⟩ := okWide_slice Try.underlying31 (hval 0 31 v0 rfl rfl)
  have w0 : Code W a0 n0 c0 := by obtain ⟨fuel, hf⟩ := h0; exact code_of Try.underlying31 Try.underlying5 (by kernel_rfl) hf
  clear hA0 hval0
  refine (walk a0 n0 c0 W w0).mono fun e W' ⟨he, bel⟩ => ?_
  subst he
  exact ⟨_, rfl, _, _, _, [], _, [], hW', trodAll_mk1 (shut_bool Try.underlying4 _), (trodAll_cons_mk (Below.trod laidOut (by kernel_rfl) (of_decide_eq_true (by kernel_rfl)) k0 bel lt0) trodAll_mk0), rfl, bel.frame _, fun h => by cases h⟩

theorem over : Rows.fnChunkNameRow.holds Try.pinned (OpenSpec.ofChange Rows.fnChunkNameSpec) :=
  OpenClaim.holds_of_wide 5 Try.f5 rfl rfl rfl rfl rfl rfl rfl ⟨rfl, rfl, rfl, rfl, rfl⟩ rfl rfl rfl rfl rfl (by kernel_rfl) Try.func5 (by kernel_rfl)
    (of_decide_eq_true (by kernel_rfl)) (by unfold Func.isWrapper; first | (rw [if_pos (by decide +kernel)]; kernel_rfl) | (rw [if_neg (by decide +kernel)]; exact ⟨rfl, rfl⟩))
    (fun os started H enc _ => lifted os started H enc)

/-- The statement. -/
theorem proved : Rows.FnChunkNameSaid := over
#print axioms proved
end Go.Proofs.Ytbleabcobojdcaa.fnChunkName
