/-
  The later one is one of both: for every code. No condition.
-/
import Derived.Test.YtbleabcobojdcaaSerial
namespace Go.Proofs.Ytbleabcobojdcaa.fnSerialLast
open Go.ChangeShapes Go.WideShapes Go.ChangeAt Go.RowKit
open Go.ChangeMaps (open_string shut_string)
set_option linter.unusedVariables false
set_option linter.unusedSimpArgs false
theorem serLastV_facts (a b : Int) : (serLastV a b < 0 ∧ serLastV a b = -1) ∨ (0 ≤ serLastV a b ∧ (serLessV a b = true → serLastV a b = b) ∧ (serLessV a b = false → serLastV a b = a)) := by
  unfold serLastV serLessV
  by_cases h : serOk a = true ∧ serOk b = true
  · right
    rw [if_pos h]
    obtain ⟨h1, h2⟩ := h
    have ha := serOk_yes h1
    have hb := serOk_yes h2
    cases h3 : serLess a b <;> simp [h1, h2] <;> omega
  · left
    rw [if_neg h]; omega
theorem walk (a0 : Option Addr) (n0 c0 : Nat) (w : World) (w0 : Code w a0 n0 c0) :
    Calls Try.prog 12 #[.slice a0 n0 c0] w fun e w' => e = .returned (.bool true) ∧ Below w.heap.size w w' := by
  have hc := w0.2.1
  unfold maxLen at hc
  by_cases hbig : 1048576 < n0
  · go_enter Try.func12, Try.ntmps12
    go_wp2
    go_ret
    exact ⟨rfl, Below.refl _ _⟩
  go_enter Try.func12, Try.ntmps12
  go_wp2_with fail
  refine (c_DrawSerialLast a0 n0 c0 _ w0).mono ?_
  rintro e w1 ⟨x, y, rfl, hx0, hx1, hy0, hy1, h1⟩
  have B1 := Lib.hid h1
  clear h1
  go_wp2_with fail
  refine (c_SerialLast x y _).mono ?_
  rintro e w' ⟨rfl, rfl⟩
  go_wp2_with fail
  refine (c_sSerialLast x y _).mono ?_
  rintro e w' ⟨rfl, rfl⟩
  have hf := serLastV_facts x y
  generalize hv : serLastV x y = v at hf
  have Hv := Lib.hid hv
  clear hv
  have hq : (v != v) = false := by simp
  have hq2 : (v == v) = true := by simp
  rcases hf with ⟨hneg, _⟩ | ⟨hpos, hl1, hl2⟩
  · go_wp2
    go_ret
    exact ⟨rfl, B1.out⟩
  · cases hl : serLessV x y with
    | true =>
      obtain rfl := hl1 hl
      clear hl1 hl2
      go_wp2_with fail
      refine (c_SerialLess x v _).mono ?_
      rintro e w' ⟨rfl, rfl⟩
      go_wp2
      go_ret
      exact ⟨rfl, B1.out⟩
    | false =>
      obtain rfl := hl2 hl
      clear hl1 hl2
      go_wp2_with fail
      refine (c_SerialLess v y _).mono ?_
      rintro e w' ⟨rfl, rfl⟩
      go_wp2
      go_ret
      exact ⟨rfl, B1.out⟩

/-! ### The row's step -/
theorem own : ownKnob Try.prog.godebug = none := by kernel_rfl
theorem laidOut : laidOutB Try.prog = true := by kernel_rfl
set_option maxRecDepth 100000 in
theorem lifted (os : Os) (started : os.Started) (H : Type) (enc : TypeId × Value → H) :
    ReturnsInHanded {} Try.checked os 12 .any (Rows.fnSerialLastSpec.pre6 enc Try.prog Try.f12 Rows.fnSerialLastRow.domain false) (Rows.fnSerialLastSpec.post enc Try.prog Try.f12 false true false false) := by
  refine returnsInHanded_of_change (C := Try.checked) own started (by kernel_rfl) Try.func12
    (ChangeSpec.witness6 (enc := enc) (C := Try.checked) false ⟨#[], #[.slice none 0 0], []⟩ 8 (by kernel_rfl) (by kernel_rfl) (by kernel_rfl) (by kernel_rfl)) ?_
  intro W base args ds gs before hval0 hW hcnd _
  have hval : ∀ (j : Nat) t v, Try.f12.params[j]? = some t → args[j]? = some v → Value.okWide Try.prog W .any base t v := hval0
  have hW' := hW
  obtain ⟨p, q, hA0, hV, rfl, hfz, hnd⟩ := hW
  have hA : DataW.TrodAll enc Try.prog W 0 (fun _ => true) true Try.f12.params.toList args.toList ds p := hA0
  rw [Try.params12] at hA hval
  obtain ⟨v0, vs0, d0, ds0, p0, q0, hargs, rfl, rfl, h0, r0⟩ := trodAll_cons hA
  obtain ⟨rfl, rfl, rfl⟩ := trodAll_nil r0
  obtain rfl : args = #[v0] := by cases args; simp_all
  obtain ⟨rfl, rfl⟩ := trodVars_none hV
  have k0 := h0
  have lt0 : ∀ x ∈ p0, x.block < W.heap.size := by obtain ⟨m, hm⟩ := k0; exact DataW.trod_lt m _ _ _ hm
  obtain ⟨a0, n0, c0, rfl⟩ := okWide_slice Try.underlying31 (hval 0 31 v0 rfl rfl)
  have w0 : Code W a0 n0 c0 := by obtain ⟨fuel, hf⟩ := h0; exact code_of Try.underlying31 Try.underlying5 (by kernel_rfl) hf
  clear hA0 hval0
  refine (walk a0 n0 c0 W w0).mono fun e W' ⟨he, bel⟩ => ?_
  subst he
  exact ⟨_, rfl, _, _, _, [], _, [], hW', trodAll_mk1 (shut_bool Try.underlying4 _), (trodAll_cons_mk (Below.trod laidOut (by kernel_rfl) (of_decide_eq_true (by kernel_rfl)) k0 bel lt0) trodAll_mk0), rfl, bel.frame _, fun h => by cases h⟩

theorem over : Rows.fnSerialLastRow.holds Try.pinned (OpenSpec.ofChange Rows.fnSerialLastSpec) :=
  OpenClaim.holds_of_wide 12 Try.f12 rfl rfl rfl rfl rfl rfl rfl ⟨rfl, rfl, rfl, rfl, rfl⟩ rfl rfl rfl rfl rfl (by kernel_rfl) Try.func12 (by kernel_rfl)
    (of_decide_eq_true (by kernel_rfl)) (by unfold Func.isWrapper; first | (rw [if_pos (by decide +kernel)]; kernel_rfl) | (rw [if_neg (by decide +kernel)]; exact ⟨rfl, rfl⟩))
    (fun os started H enc _ => lifted os started H enc)

/-- The statement. -/
theorem proved : Rows.FnSerialLastSaid := over
#print axioms proved
end Go.Proofs.Ytbleabcobojdcaa.fnSerialLast
