/-
  A chunk is filled up with zeros: for every code. No condition.
-/
import Derived.Test.YtgikbnldbbeinaaDrawCG
import Derived.Test.YtgikbnldbbeinaaCGLaw
namespace Go.Proofs.Ytgikbnldbbeinaa.fnChunkPad
open Go.ChangeShapes Go.WideShapes Go.ChangeAt Go.RowKit
open Go.ChangeMaps (open_string shut_string)
set_option linter.unusedVariables false
set_option linter.unusedSimpArgs false
theorem walk (a0 : Option Addr) (n0 c0 : Nat) (w : World) (w0 : Code w a0 n0 c0) :
    Calls Try.prog 6 #[.slice a0 n0 c0] w fun e w' => e = .returned (.bool true) ∧ Below w.heap.size w w' := by
  have hc := w0.2.1
  unfold maxLen at hc
  by_cases hbig : 1048576 < n0
  · go_enter Try.func6, Try.ntmps6
    go_wp2
    go_ret
    exact ⟨rfl, Below.refl _ _⟩
  go_enter Try.func6, Try.ntmps6
  go_wp2_with fail
  refine (c_DrawChunkGet a0 n0 c0 _ w0).mono ?_
  rintro e w1 ⟨s, at1, rfl, hs, ha0, ha1, h1⟩
  have B1 := Lib.hid h1
  clear h1
  rcases CG_or s at1 with ⟨a, rfl, hCG⟩ | hno
  rotate_left
  · have HN := Lib.hid hno
    clear hno
    go_wp2_with fail
    refine (c_ChunkGet_no s at1 _ (by omega) HN.out).mono ?_
    rintro e w2 ⟨rfl, h2⟩
    simp only [cgNo]
    have B2 := Lib.hid (below_step B1.out B1.out.size h2)
    clear h2 B1
    go_wp2_with fail
    refine (c_sChunkGet_no s at1 _ (by omega) HN.out).mono ?_
    rintro e w3 ⟨rfl, h3⟩
    simp only [cgNo]
    obtain ⟨c0, c1, c2, hlt⟩ := box3 h3
    have B3 := Lib.hid (below_step (B2.out.alloc B2.out.size _) (Nat.le_trans B2.out.size (by simp)) h3)
    clear h3 B2
    go_wp2
    go_ret
    exact ⟨rfl, B3.out.alloc B3.out.size _⟩
  have hq : (((cgEnd s a : Nat) : Int) != ((cgEnd s a : Nat) : Int)) = false := by simp
  have hsz := hCG.2.2.2.1
  have hlow : a + 4 ≤ cgEnd s a := by have := hCG.2.1; unfold cgEnd; omega
  have HC := Lib.hid hCG
  clear hCG
  go_wp2_with fail
  refine (c_ChunkGet_yes s a _ (by omega) HC.out).mono ?_
  rintro e w2 ⟨rfl, h2⟩
  simp only [cgYes]
  have B2 := Lib.hid (below_step B1.out B1.out.size h2)
  clear h2 B1
  go_wp2_with fail
  refine (c_sChunkGet_yes s a _ (by omega) HC.out).mono ?_
  rintro e w3 ⟨rfl, h3⟩
  simp only [cgYes]
  obtain ⟨c0, c1, c2, hlt⟩ := box3 h3
  have B3 := Lib.hid (below_step (B2.out.alloc B2.out.size _) (Nat.le_trans B2.out.size (by simp)) h3)
  clear h3 B2
  have hb := (CG_put s a HC.out).2.1
  have hn4 := HC.out.2.1
  have hn64 := HC.out.2.2.1
  have hE : a + cgN s a ≤ cgEnd s a := by unfold cgEnd; omega
  have hor : (cgEnd s a = a + cgN s a) ∨ (cgEnd s a ≠ a + cgN s a ∧ byAt s (cgEnd s a - 1) = 0 ∧ ¬ CG (s.extract 0 (cgEnd s a - 1) ++ by1 1) a) := by
    by_cases hne : cgEnd s a = a + cgN s a
    · exact .inl hne
    · exact .inr ⟨hne, CG_pad s a HC.out hne⟩
  have hbz : (s.extract (a + 4) (a + cgN s a)).size ≤ 60 := by omega
  have hes : (s.extract 0 (cgEnd s a - 1)).size = cgEnd s a - 1 := by rw [size_extract _ _ _ (by omega)]; omega
  clear HC
  generalize hbd : s.extract (a + 4) (a + cgN s a) = bd at *
  clear hbd
  generalize hn : cgN s a = m at *
  clear hn
  generalize hEd : cgEnd s a = E at *
  clear hEd
  have HB := Lib.hid hb
  have HES := Lib.hid hes
  clear hb hes
  have ha44 : (a : Int) ≤ (E : Int) := by omega
  have hw3 : w2.heap.size < w3.heap.size := hlt
  rcases hor with hne | ⟨hne, hz0, hcut⟩
  · have hq2 : ((E : Int) - (a : Int) == 4 + (bd.size : Int)) = true := by rw [HB.out]; simp; omega
    clear hne
    go_wp2
    go_ret
    exact ⟨rfl, B3.out.alloc B3.out.size _⟩
  · have hq2 : ((E : Int) - (a : Int) == 4 + (bd.size : Int)) = false := by rw [HB.out]; simp; omega
    have hby : (by1 1) = (⟨#[1]⟩ : ByteArray) := by decide +kernel
    rw [hby] at hcut
    have hx1 : (⟨#[1]⟩ : ByteArray).size = 1 := rfl
    have hcs : (s.extract 0 (E - 1) ++ ⟨#[1]⟩).size ≤ 2000000 := by rw [ByteArray.size_append, HES.out, hx1]; omega
    have hxl : ¬ 9223372036854775807 < (s.extract 0 (E - 1)).size + 1 := by rw [HES.out]; omega
    have hcn : ∀ n : Nat, (a : Int) = n → ¬ CG (s.extract 0 (E - 1) ++ ⟨#[1]⟩) n := by
      intro n e
      have : a = n := by omega
      subst this
      exact hcut
    have HN := Lib.hid hcn
    have q0 : (0 : Int) ≤ (E : Int) - 1 := by omega
    have q2 : (E : Int) - 1 ≤ (s.size : Int) := by omega
    have q4 : (E : Int) - 1 < (s.size : Int) := by omega
    have q3 : ((E : Int) - 1).toNat = E - 1 := by omega
    have hi : E - 1 < s.size := by omega
    have e1 := byAt_get s (E - 1) hi
    rw [hz0] at e1
    clear hcn hcut hby hx1 hne hz0
    go_wp2_with fail
    refine (c_ChunkGet_no _ (a : Int) _ hcs HN.out).mono ?_
    rintro e w4 ⟨rfl, h4⟩
    simp only [cgNo]
    have B4 := Lib.hid (below_step (B3.out.alloc B3.out.size _) (Nat.le_trans B3.out.size (by simp)) h4)
    clear h4 B3
    go_wp2
    go_ret
    exact ⟨rfl, B4.out.alloc B4.out.size _⟩

/-! ### The row's step -/
theorem own : ownKnob Try.prog.godebug = none := by kernel_rfl
theorem laidOut : laidOutB Try.prog = true := by kernel_rfl
set_option maxRecDepth 100000 in
theorem lifted (os : Os) (started : os.Started) (H : Type) (enc : TypeId × Value → H) :
    ReturnsInHanded {} Try.checked os 6 .any (Rows.fnChunkPadSpec.pre6 enc Try.prog Try.f6 Rows.fnChunkPadRow.domain false) (Rows.fnChunkPadSpec.post enc Try.prog Try.f6 false true false false) := by
  refine returnsInHanded_of_change (C := Try.checked) own started (by kernel_rfl) Try.func6
    (ChangeSpec.witness6 (enc := enc) (C := Try.checked) false ⟨#[], #[.slice none 0 0], []⟩ 8 (by kernel_rfl) (by kernel_rfl) (by kernel_rfl) (by kernel_rfl)) ?_
  intro W base args ds gs before hval0 hW hcnd _
  have hval : ∀ (j : Nat) t v, Try.f6.params[j]? = some t → args[j]? = some v → Value.okWide Try.prog W .any base t v := hval0
  have hW' := hW
  obtain ⟨p, q, hA0, hV, rfl, hfz, hnd⟩ := hW
  have hA : DataW.TrodAll enc Try.prog W 0 (fun _ => true) true Try.f6.params.toList args.toList ds p := hA0
  rw [Try.params6] at hA hval
  obtain ⟨v0, vs0, d0, ds0, p0, q0, hargs, rfl, rfl, h0, r0⟩ := trodAll_cons hA
  obtain ⟨rfl, rfl, rfl⟩ := trodAll_nil r0
  obtain rfl : args = #[v0] := by cases args; simp_all
  obtain ⟨rfl, rfl⟩ := trodVars_none hV
  have k0 := h0
  have lt0 : ∀ x ∈ p0, x.block < W.heap.size := by obtain ⟨m, hm⟩ := k0; exact DataW.trod_lt m _ _ _ hm
  obtain ⟨a0, n0, c0, rfl⟩ := okWide_slice Try.underlying22 (hval 0 22 v0 rfl rfl)
  have w0 : Code W a0 n0 c0 := by obtain ⟨fuel, hf⟩ := h0; exact code_of Try.underlying22 Try.underlying5 (by kernel_rfl) hf
  clear hA0 hval0
  refine (walk a0 n0 c0 W w0).mono fun e W' ⟨he, bel⟩ => ?_
  subst he
  exact ⟨_, rfl, _, _, _, [], _, [], hW', trodAll_mk1 (shut_bool Try.underlying4 _), (trodAll_cons_mk (Below.trod laidOut (by kernel_rfl) (of_decide_eq_true (by kernel_rfl)) k0 bel lt0) trodAll_mk0), rfl, bel.frame _, fun h => by cases h⟩

theorem over : Rows.fnChunkPadRow.holds Try.pinned (OpenSpec.ofChange Rows.fnChunkPadSpec) :=
  OpenClaim.holds_of_wide 6 Try.f6 rfl rfl rfl rfl rfl rfl rfl ⟨rfl, rfl, rfl, rfl, rfl⟩ rfl rfl rfl rfl rfl (by kernel_rfl) Try.func6 (by kernel_rfl)
    (of_decide_eq_true (by kernel_rfl)) (by unfold Func.isWrapper; first | (rw [if_pos (by decide +kernel)]; kernel_rfl) | (rw [if_neg (by decide +kernel)]; exact ⟨rfl, rfl⟩))
    (fun os started H enc _ => lifted os started H enc)

/-- The statement. -/
theorem proved : Rows.FnChunkPadSaid := over
#print axioms proved
end Go.Proofs.Ytgikbnldbbeinaa.fnChunkPad
