/-
  Different kinds have different names: for every code. No condition.
-/
import Derived.Test.YtbleabcobojdcaaKinds
import Derived.LoopTactic
namespace Go.Proofs.Ytbleabcobojdcaa.fnChunkNameOther
open Go.ChangeShapes Go.WideShapes Go.ChangeAt Go.RowKit
open Go.ChangeMaps (open_string shut_string)
set_option linter.unusedVariables false
set_option linter.unusedSimpArgs false
/-- The names of two different kinds differ, if one is not empty. -/
theorem cname_inj (j k : Int) (h : j ≠ k) (hk : (cname k).toList ≠ []) : ((cname j).toList == (cname k).toList) = false := by
  by_cases hj : j < 0 ∨ 15 ≤ j
  · rw [cname_no j hj]
    have h0 : (⟨#[]⟩ : ByteArray).toList = [] := by decide +kernel
    rw [h0]
    cases e : (cname k).toList with
    | nil => exact absurd e hk
    | cons a l => rfl
  · by_cases hk' : k < 0 ∨ 15 ≤ k
    · exact absurd (by rw [cname_no k hk']; decide +kernel) hk
    · have key : ∀ a ∈ List.range 15, ∀ b ∈ List.range 15, a ≠ b → (cname (b : Int)).toList ≠ [] → ((cname (a : Int)).toList == (cname (b : Int)).toList) = false := by decide +kernel
      have e1 : ((j.toNat : Nat) : Int) = j := by omega
      have e2 : ((k.toNat : Nat) : Int) = k := by omega
      have := key j.toNat (List.mem_range.2 (by omega)) k.toNat (List.mem_range.2 (by omega)) (by omega)
      rw [e1, e2] at this
      exact this hk
theorem walk (a0 : Option Addr) (n0 c0 : Nat) (w : World) (w0 : Code w a0 n0 c0) :
    Calls Try.prog 6 #[.slice a0 n0 c0] w fun e w' => e = .returned (.bool true) ∧ Below w.heap.size w w' := by
  have hc := w0.2.1
  unfold maxLen at hc
  by_cases hbig : 1048576 < n0
  · go_enter Try.func6, Try.ntmps6
    go_wp2
    go_ret
    exact ⟨rfl, Below.refl _ _⟩
  go_enter Try.func6, Try.ntmps6
  go_wp2_with fail
  refine (c_DrawChunkName a0 n0 c0 _ w0).mono ?_
  rintro e w1 ⟨k, rfl, hk, hk1, h1⟩
  go_wp2_with fail
  refine (c_ChunkName k _).mono ?_
  rintro e w2 ⟨rfl, h2⟩
  have B2 := Lib.hid (below_step h1 h1.size h2)
  clear h1 h2
  go_wp2_with fail
  refine (c_sChunkName k _).mono ?_
  rintro e w3 ⟨rfl, h3⟩
  have B3 := Lib.hid (below_step B2.out B2.out.size h3)
  clear h3
  have hs : ((cname k).toList == (cname k).toList) = true := by simp
  cases hem : (cname k).toList.isEmpty with
  | true =>
    go_wp2
    go_ret
    exact ⟨rfl, B3.out⟩
  | false =>
    have hne := Lib.hid (show (cname k).toList ≠ [] by intro e; rw [e] at hem; cases hem)
    go_wp2
    go_loopw [6] (fun i wr => ∃ j : Nat, j ≤ 302 ∧ i = .int .i64 ((j : Int) - 2) ∧ Below w.heap.size w wr) (fun i _ => (300 - intOf i).toNat)
    case atStart => exact ⟨0, by omega, by simp, B3.out⟩
    case round =>
      obtain ⟨j, hj, rfl, hB⟩ := hrel
      have HB := Lib.hid hB
      clear hB
      have hz := HB.out.size
      by_cases hlt : (j : Int) - 2 < 300
      · by_cases hjk : (j : Int) - 2 = k
        · have hq : (((j : Int) - 2) != k) = false := by simpa using hjk
          have Hjk := Lib.hid hjk
          clear hjk
          go_wp2
          go_roundw
          case rel => exact ⟨j + 1, by omega, by go_num, HB.out⟩
          case measure => simp [intOf]; omega
        · have hq : (((j : Int) - 2) != k) = true := by simpa using hjk
          have hi := cname_inj ((j : Int) - 2) k hjk hne.out
          clear hjk
          go_wp2_with fail
          refine (c_ChunkName ((j : Int) - 2) _).mono ?_
          rintro e w4 ⟨rfl, h4⟩
          have HC := Lib.hid (HB.out.trans (h4.mono hz))
          clear h4
          go_wp2
          go_roundw
          case rel => exact ⟨j + 1, by omega, by go_num, HC.out⟩
          case measure => simp [intOf]; omega
      · go_wp2
        go_ret
        exact ⟨rfl, HB.out⟩

/-! ### The row's step -/
theorem own : ownKnob Try.prog.godebug = none := by kernel_rfl
theorem laidOut : laidOutB Try.prog = true := by kernel_rfl
set_option maxRecDepth 100000 in
theorem lifted (os : Os) (started : os.Started) (H : Type) (enc : TypeId × Value → H) :
    ReturnsInHanded {} Try.checked os 6 .any (Rows.fnChunkNameOtherSpec.pre6 enc Try.prog Try.f6 Rows.fnChunkNameOtherRow.domain false) (Rows.fnChunkNameOtherSpec.post enc Try.prog Try.f6 false true false false) := by
  refine returnsInHanded_of_change (C := Try.checked) own started (by kernel_rfl) Try.func6
    (ChangeSpec.witness6 (enc := enc) (C := Try.checked) false ⟨#[], #[.slice none 0 0], []⟩ 8 (by kernel_rfl) (by kernel_rfl) (by kernel_rfl) (by kernel_rfl)) ?_
  intro W base args ds gs before hval0 hW hcnd _
  have hval : ∀ (j : Nat) t v, Try.f6.params[j]? = some t → args[j]? = some v → Value.okWide Try.prog W .any base t v := hval0
  have hW' := hW
  obtain ⟨p, q, hA0, hV, rfl, hfz, hnd⟩ := hW
  have hA : DataW.TrodAll enc Try.prog W 0 (fun _ => true) true Try.f6.params.toList args.toList ds p := hA0
  rw [Try.params6] at hA hval
  obtain ⟨v0, vs0, d0, ds0, p0, q0, hargs, rfl, rfl, h0, r0⟩ := trodAll_cons hA
  obtain ⟨rfl, rfl, rfl⟩ := trodAll_nil r0
  obtain rfl : args = #[v0] := by cases args; simp_all
  obtain ⟨rfl, rfl⟩ := trodVars_none hV
  have k0 := h0
  have lt0 : ∀ x ∈ p0, x.block < W.heap.size := by obtain ⟨m, hm⟩ := k0; exact DataW.trod_lt m _ _ _ hm
  obtain ⟨a0, n0, c0, rfl⟩ := okWide_slice Try.underlying31 (hval 0 31 v0 rfl rfl)
  have w0 : Code W a0 n0 c0 := by obtain ⟨fuel, hf⟩ := h0; exact code_of Try.underlying31 Try.underlying5 (by kernel_rfl) hf
  clear hA0 hval0
  refine (walk a0 n0 c0 W w0).mono fun e W' ⟨he, bel⟩ => ?_
  subst he
  exact ⟨_, rfl, _, _, _, [], _, [], hW', trodAll_mk1 (shut_bool Try.underlying4 _), (trodAll_cons_mk (Below.trod laidOut (by kernel_rfl) (of_decide_eq_true (by kernel_rfl)) k0 bel lt0) trodAll_mk0), rfl, bel.frame _, fun h => by cases h⟩

theorem over : Rows.fnChunkNameOtherRow.holds Try.pinned (OpenSpec.ofChange Rows.fnChunkNameOtherSpec) :=
  OpenClaim.holds_of_wide 6 Try.f6 rfl rfl rfl rfl rfl rfl rfl ⟨rfl, rfl, rfl, rfl, rfl⟩ rfl rfl rfl rfl rfl (by kernel_rfl) Try.func6 (by kernel_rfl)
    (of_decide_eq_true (by kernel_rfl)) (by unfold Func.isWrapper; first | (rw [if_pos (by decide +kernel)]; kernel_rfl) | (rw [if_neg (by decide +kernel)]; exact ⟨rfl, rfl⟩))
    (fun os started H enc _ => lifted os started H enc)

/-- The statement. -/
theorem proved : Rows.FnChunkNameOtherSaid := over
#print axioms proved
end Go.Proofs.Ytbleabcobojdcaa.fnChunkNameOther
