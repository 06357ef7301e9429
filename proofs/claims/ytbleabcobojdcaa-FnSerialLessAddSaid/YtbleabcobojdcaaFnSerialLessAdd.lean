/-
  A step leads behind, and never ahead: for every code and every number of further bytes. No condition.
-/
import Derived.Test.YtbleabcobojdcaaSerial
namespace Go.Proofs.Ytbleabcobojdcaa.fnSerialLessAdd
open Go.ChangeShapes Go.WideShapes Go.ChangeAt Go.RowKit
open Go.ChangeMaps (open_string shut_string)
set_option linter.unusedVariables false
set_option linter.unusedSimpArgs false
theorem less_add (a k : Int) (ha : 0 ≤ a) (ha1 : a < 65536) (hk : 1 ≤ k) (hk1 : k ≤ 32767) : serLessV a (serAdd a k) = true ∧ serLessV a (serAdd a (-k)) = false := by
  have h1 := serAdd_range a k
  have h2 := serAdd_range a (-k)
  have e0 : serOk a = true := serOk_of ha ha1
  have e1 : serOk (serAdd a k) = true := serOk_of h1.1 h1.2
  have e2 : serOk (serAdd a (-k)) = true := serOk_of h2.1 h2.2
  unfold serLessV serLess
  rw [e0, e1, e2]
  constructor
  · simp only [Bool.true_and, decide_eq_true_eq]
    unfold serDiff serAdd; split <;> omega
  · simp only [Bool.true_and, decide_eq_false_iff_not]
    unfold serDiff serAdd; split <;> omega
theorem walk (a0 : Option Addr) (n0 c0 : Nat) (a1 : Option Addr) (n1 c1 : Nat) (w : World) (w0 : Code w a0 n0 c0) (w1 : Code w a1 n1 c1) :
    Calls Try.prog 11 #[.slice a0 n0 c0, .slice a1 n1 c1] w fun e w' => e = .returned (.bool true) ∧ Below w.heap.size w w' := by
  have hc := w0.2.1
  have hc' := w1.2.1
  unfold maxLen at hc hc'
  have hn := w0.1
  have hn' := w1.1
  by_cases hbig : 1048576 < n0
  · go_enter Try.func11, Try.ntmps11
    go_wp2
    go_ret
    exact ⟨rfl, Below.refl _ _⟩
  by_cases hbig2 : 1048576 < n1
  · go_enter Try.func11, Try.ntmps11
    go_wp2
    go_ret
    exact ⟨rfl, Below.refl _ _⟩
  go_enter Try.func11, Try.ntmps11
  go_wp2_with fail
  refine (c_DrawSerialLess a0 n0 c0 _ w0).mono ?_
  rintro e u1 ⟨x, y, rfl, hx0, hx1, hy0, hy1, h1⟩
  have B1 := Lib.hid h1
  clear h1
  go_wp2_with fail
  refine (c_SerialLess x y _).mono ?_
  rintro e w' ⟨rfl, rfl⟩
  go_wp2_with fail
  refine (c_sSerialLess x y _).mono ?_
  rintro e w' ⟨rfl, rfl⟩
  have hq : ∀ b : Bool, (b != b) = false := fun b => by simp
  have hq2 : ∀ b : Bool, (b == b) = true := fun b => by simp
  generalize hv : serLessV x y = v
  clear hv
  go_wp2_with fail
  refine (c_SerialIn_self x _).mono ?_
  rintro e w' ⟨rfl, rfl⟩
  cases hok : serOk x with
  | false =>
    go_wp2
    go_ret
    exact ⟨rfl, B1.out⟩
  | true =>
    obtain ⟨ha, ha1⟩ := serOk_yes hok
    have hk0 : (0 : Int) ≤ (n1 : Int) % 32767 := by omega
    have hk1 : (n1 : Int) % 32767 ≤ 32766 := by omega
    obtain ⟨hl1, hl2⟩ := less_add x (1 + (n1 : Int) % 32767) ha ha1 (by omega) (by omega)
    have hin : inB 1 0 32768 = true := by decide
    go_wp2_with fail
    refine (c_SerialAdd x (1 + (n1 : Int) % 32767) _ ha ha1).mono ?_
    rintro e w' ⟨rfl, rfl⟩
    go_wp2_with fail
    refine (c_SerialLess x _ _).mono ?_
    rintro e w' ⟨rfl, rfl⟩
    go_wp2_with fail
    refine (c_SerialAdd x (-(1 + (n1 : Int) % 32767)) _ ha ha1).mono ?_
    rintro e w' ⟨rfl, rfl⟩
    go_wp2_with fail
    refine (c_SerialLess x _ _).mono ?_
    rintro e w' ⟨rfl, rfl⟩
    go_wp2
    go_ret
    exact ⟨rfl, B1.out⟩

/-! ### The row's step -/
theorem own : ownKnob Try.prog.godebug = none := by kernel_rfl
theorem laidOut : laidOutB Try.prog = true := by kernel_rfl
set_option maxRecDepth 100000 in
theorem lifted (os : Os) (started : os.Started) (H : Type) (enc : TypeId × Value → H) :
    ReturnsInHanded {} Try.checked os 11 .any (Rows.fnSerialLessAddSpec.pre6 enc Try.prog Try.f11 Rows.fnSerialLessAddRow.domain false) (Rows.fnSerialLessAddSpec.post enc Try.prog Try.f11 false true false false) := by
  refine returnsInHanded_of_change (C := Try.checked) own started (by kernel_rfl) Try.func11
    (ChangeSpec.witness6 (enc := enc) (C := Try.checked) false ⟨#[], #[.slice none 0 0, .slice none 0 0], []⟩ 8 (by kernel_rfl) (by kernel_rfl) (by kernel_rfl) (by kernel_rfl)) ?_
  intro W base args ds gs before hval0 hW hcnd _
  have hval : ∀ (j : Nat) t v, Try.f11.params[j]? = some t → args[j]? = some v → Value.okWide Try.prog W .any base t v := hval0
  have hW' := hW
  obtain ⟨p, q, hA0, hV, rfl, hfz, hnd⟩ := hW
  have hA : DataW.TrodAll enc Try.prog W 0 (fun _ => true) true Try.f11.params.toList args.toList ds p := hA0
  rw [Try.params11] at hA hval
  obtain ⟨v0, vs0, d0, ds0, p0, q0, hargs, rfl, rfl, h0, r0⟩ := trodAll_cons hA
  obtain ⟨v1, vs1, d1, ds1, p1, q1, rfl, rfl, rfl, h1, r1⟩ := trodAll_cons r0
  obtain ⟨rfl, rfl, rfl⟩ := trodAll_nil r1
  obtain rfl : args = #[v0, v1] := by cases args; simp_all
  obtain ⟨rfl, rfl⟩ := trodVars_none hV
  have k0 := h0
  have lt0 : ∀ x ∈ p0, x.block < W.heap.size := by obtain ⟨m, hm⟩ := k0; exact DataW.trod_lt m _ _ _ hm
  obtain ⟨a0, n0, c0, rfl⟩ := okWide_slice Try.underlying31 (hval 0 31 v0 rfl rfl)
  have w0 : Code W a0 n0 c0 := by obtain ⟨fuel, hf⟩ := h0; exact code_of Try.underlying31 Try.underlying5 (by kernel_rfl) hf
  have k1 := h1
  have lt1 : ∀ x ∈ p1, x.block < W.heap.size := by obtain ⟨m, hm⟩ := k1; exact DataW.trod_lt m _ _ _ hm
  obtain ⟨a1, n1, c1, rfl⟩ := okWide_slice Try.underlying31 (hval 1 31 v1 rfl rfl)
  have w1 : Code W a1 n1 c1 := by obtain ⟨fuel, hf⟩ := h1; exact code_of Try.underlying31 Try.underlying5 (by kernel_rfl) hf
  clear hA0 hval0
  refine (walk a0 n0 c0 a1 n1 c1 W w0 w1).mono fun e W' ⟨he, bel⟩ => ?_
  subst he
  exact ⟨_, rfl, _, _, _, [], _, [], hW', trodAll_mk1 (shut_bool Try.underlying4 _), (trodAll_cons_mk (Below.trod laidOut (by kernel_rfl) (of_decide_eq_true (by kernel_rfl)) k0 bel lt0) (trodAll_cons_mk (Below.trod laidOut (by kernel_rfl) (of_decide_eq_true (by kernel_rfl)) k1 bel lt1) trodAll_mk0)), rfl, bel.frame _, fun h => by cases h⟩

theorem over : Rows.fnSerialLessAddRow.holds Try.pinned (OpenSpec.ofChange Rows.fnSerialLessAddSpec) :=
  OpenClaim.holds_of_wide 11 Try.f11 rfl rfl rfl rfl rfl rfl rfl ⟨rfl, rfl, rfl, rfl, rfl⟩ rfl rfl rfl rfl rfl (by kernel_rfl) Try.func11 (by kernel_rfl)
    (of_decide_eq_true (by kernel_rfl)) (by unfold Func.isWrapper; first | (rw [if_pos (by decide +kernel)]; kernel_rfl) | (rw [if_neg (by decide +kernel)]; exact ⟨rfl, rfl⟩))
    (fun os started H enc _ => lifted os started H enc)

/-- The statement. -/
theorem proved : Rows.FnSerialLessAddSaid := over
#print axioms proved
end Go.Proofs.Ytbleabcobojdcaa.fnSerialLessAdd
