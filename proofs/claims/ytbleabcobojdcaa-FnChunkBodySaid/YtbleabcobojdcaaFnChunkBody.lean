/-
  A body has at most MaxBody bytes: for every code. No condition.
-/
import Derived.Test.YtbleabcobojdcaaDrawCV
import Derived.Test.YtbleabcobojdcaaConv
import Derived.Test.YtbleabcobojdcaaChunkFacts
import Derived.LoopTactic
namespace Go.Proofs.Ytbleabcobojdcaa.fnChunkBody
open Go.ChangeShapes Go.WideShapes Go.ChangeAt Go.RowKit
open Go.ChangeMaps (open_string shut_string)
set_option linter.unusedVariables false
set_option linter.unusedSimpArgs false
/-- How long the text in the third cell of a block is: the loop's measure. -/
def lenAt (w : World) (b : Nat) : Nat := match w.cell? ⟨b, 2, none⟩ with | some (.string s) => s.size | _ => 0
theorem lenAt_blk {w : World} {b : Nat} {t : TypeId} {x y : Value} {s : ByteArray} (h : Blk w b t #[x, y, .string s]) : lenAt w b = s.size := by
  unfold lenAt
  rw [h.get3.2.2.1]
theorem size98 : (⟨#[98]⟩ : ByteArray).size = 1 := rfl
/-- What holds at each round. -/
def BodyRel (w : World) (b : Nat) (x y : Int) (ex : ByteArray) (wr : World) : Prop :=
  ∃ t : ByteArray, t.size ≤ 61 ∧ Blk wr b 28 #[.int .i64 x, .int .i64 y, .string ex] ∧ Blk wr (b + 1) 28 #[.int .i64 x, .int .i64 y, .string t] ∧ Below w.heap.size w wr
theorem walk (a0 : Option Addr) (n0 c0 : Nat) (w : World) (w0 : Code w a0 n0 c0) :
    Calls Try.prog 8 #[.slice a0 n0 c0] w fun e w' => e = .returned (.bool true) ∧ Below w.heap.size w w' := by
  have hc := w0.2.1
  unfold maxLen at hc
  by_cases hbig : 1048576 < n0
  · go_enter Try.func8, Try.ntmps8
    go_wp2
    go_ret
    exact ⟨rfl, Below.refl _ _⟩
  go_enter Try.func8, Try.ntmps8
  go_wp2_with fail
  refine (c_DrawChunkValid a0 n0 c0 _ w0).mono ?_
  rintro e w1 ⟨x, y, s, rfl, hx0, hx1, hy0, hy1, hs, h1⟩
  have hs1 : s.size ≤ maxLen := by unfold maxLen; omega
  have B1 := Lib.hid h1
  clear h1
  go_wp2_with fail
  refine (c_ChunkValid x y s _ hs1).mono ?_
  rintro e w2 ⟨rfl, h2⟩
  obtain ⟨c0, c1, c2, hlt⟩ := box3 h2
  have B2 := Lib.hid (below_step (B1.out.alloc B1.out.size _) (Nat.le_trans B1.out.size (by simp)) h2)
  clear h2 B1
  go_wp2_with fail
  refine (c_sChunkValid x y s _ hs1).mono ?_
  rintro e w3 ⟨rfl, h3⟩
  have d0 := keep1 h3 hlt c0
  have d1 := keep1 h3 hlt c1
  have d2 := keep1 h3 hlt c2
  have hlt3 := Nat.lt_of_lt_of_le hlt h3.size
  have B3 := Lib.hid (below_step B2.out B2.out.size h3)
  clear h3 B2 c0 c1 c2
  have hz := B3.out.size
  cases hok : chunkOk x y s with
  | false =>
    go_wp2
    go_ret
    exact ⟨rfl, B3.out⟩
  | true =>
    have hok' := Lib.hid hok
    have hsz : s.size ≤ 60 := by unfold chunkOk at hok; simp at hok; exact hok.2.2.2.2
    have hr : 0 ≤ x ∧ x ≤ 255 ∧ 0 ≤ y ∧ y ≤ 255 := by unfold chunkOk at hok; simp at hok; omega
    have hext : (s.extract 0 (s.size / 2)).size ≤ 60 := by rw [ByteArray.size_extract]; omega
    generalize hE : s.extract 0 (s.size / 2) = ex at hext
    have HE := Lib.hid hE
    clear hE hok
    go_wp2
    rw [HE.out]
    go_loopw [] (fun wr => BodyRel w w3.heap.size x y ex wr) (fun wr => 62 - lenAt wr (w3.heap.size + 1))
    case atStart => exact ⟨s, by omega, (Blk.new w3 _ _).alloc _, by simpa using Blk.new (w3.alloc _) 28 _, (B3.out.alloc hz _).alloc (by simp; omega) _⟩
    case round =>
      obtain ⟨t, ht, hb1, hb2, hB⟩ := hrel
      have HB := Lib.hid hB
      obtain ⟨c0, c1, c2, c3, c4, c5⟩ := hb2.get3
      have H1 := Lib.hid hb1
      have H2 := Lib.hid hb2
      have hl := lenAt_blk hb2
      have HL := Lib.hid hl
      clear hb1 hb2 hB hl
      by_cases hlt : t.size ≤ 60
      · go_wp2
        go_roundw
        case rel => exact ⟨t ++ ⟨#[98]⟩, by rw [ByteArray.size_append, size98]; omega, H1.out.far (by show _ ≠ _ + 1; omega) _, H2.out.set_ 2 _, HB.out.setCell (by show w.heap.size ≤ w3.heap.size + 1; omega) _⟩
        case measure =>
          rw [HL.out, lenAt_blk (H2.out.set_ 2 _)]
          rw [ByteArray.size_append, size98]; omega
      · obtain ⟨e0, e1, e2, e3, e4, e5⟩ := H1.out.get3
        have hokx : chunkOk x y ex = true := by unfold chunkOk; simp; omega
        have hoky : chunkOk x y t = false := by unfold chunkOk; simp; omega
        have hlw := H2.out.lt
        go_wp2_with fail
        refine (c_ChunkValid x y ex _ (by unfold maxLen; omega)).mono ?_
        rintro e w5 ⟨rfl, h5⟩
        have f0 := keep1 h5 hlw c0
        have f1 := keep1 h5 hlw c1
        have f2 := keep1 h5 hlw c2
        have B5 := Lib.hid (below_step HB.out HB.out.size h5)
        clear h5 HB c0 c1 c2 c3 c4 c5 e0 e1 e2 e3 e4 e5
        go_wp2_with fail
        refine (c_ChunkValid x y t _ (by unfold maxLen; omega)).mono ?_
        rintro e w6 ⟨rfl, h6⟩
        have B6 := Lib.hid (below_step B5.out B5.out.size h6)
        clear h6 B5
        go_wp2
        go_ret
        exact ⟨rfl, B6.out⟩

/-! ### The row's step -/
theorem own : ownKnob Try.prog.godebug = none := by kernel_rfl
theorem laidOut : laidOutB Try.prog = true := by kernel_rfl
set_option maxRecDepth 100000 in
theorem lifted (os : Os) (started : os.Started) (H : Type) (enc : TypeId × Value → H) :
    ReturnsInHanded {} Try.checked os 8 .any (Rows.fnChunkBodySpec.pre6 enc Try.prog Try.f8 Rows.fnChunkBodyRow.domain false) (Rows.fnChunkBodySpec.post enc Try.prog Try.f8 false true false false) := by
  refine returnsInHanded_of_change (C := Try.checked) own started (by kernel_rfl) Try.func8
    (ChangeSpec.witness6 (enc := enc) (C := Try.checked) false ⟨#[], #[.slice none 0 0], []⟩ 8 (by kernel_rfl) (by kernel_rfl) (by kernel_rfl) (by kernel_rfl)) ?_
  intro W base args ds gs before hval0 hW hcnd _
  have hval : ∀ (j : Nat) t v, Try.f8.params[j]? = some t → args[j]? = some v → Value.okWide Try.prog W .any base t v := hval0
  have hW' := hW
  obtain ⟨p, q, hA0, hV, rfl, hfz, hnd⟩ := hW
  have hA : DataW.TrodAll enc Try.prog W 0 (fun _ => true) true Try.f8.params.toList args.toList ds p := hA0
  rw [Try.params8] at hA hval
  obtain ⟨v0, vs0, d0, ds0, p0, q0, hargs, rfl, rfl, h0, r0⟩ := trodAll_cons hA
  obtain ⟨rfl, rfl, rfl⟩ := trodAll_nil r0
  obtain rfl : args = #[v0] := by cases args; simp_all
  obtain ⟨rfl, rfl⟩ := trodVars_none hV
  have k0 := h0
  have lt0 : ∀ x ∈ p0, x.block < W.heap.size := by obtain ⟨m, hm⟩ := k0; exact DataW.trod_lt m _ _ _ hm
  obtain ⟨a0, n0, c0, rfl⟩ := okWide_slice Try.underlying31 (hval 0 31 v0 rfl rfl)
  have w0 : Code W a0 n0 c0 := by obtain ⟨fuel, hf⟩ := h0; exact code_of Try.underlying31 Try.underlying5 (by kernel_rfl) hf
  clear hA0 hval0
  refine (walk a0 n0 c0 W w0).mono fun e W' ⟨he, bel⟩ => ?_
  subst he
  exact ⟨_, rfl, _, _, _, [], _, [], hW', trodAll_mk1 (shut_bool Try.underlying4 _), (trodAll_cons_mk (Below.trod laidOut (by kernel_rfl) (of_decide_eq_true (by kernel_rfl)) k0 bel lt0) trodAll_mk0), rfl, bel.frame _, fun h => by cases h⟩

theorem over : Rows.fnChunkBodyRow.holds Try.pinned (OpenSpec.ofChange Rows.fnChunkBodySpec) :=
  OpenClaim.holds_of_wide 8 Try.f8 rfl rfl rfl rfl rfl rfl rfl ⟨rfl, rfl, rfl, rfl, rfl⟩ rfl rfl rfl rfl rfl (by kernel_rfl) Try.func8 (by kernel_rfl)
    (of_decide_eq_true (by kernel_rfl)) (by unfold Func.isWrapper; first | (rw [if_pos (by decide +kernel)]; kernel_rfl) | (rw [if_neg (by decide +kernel)]; exact ⟨rfl, rfl⟩))
    (fun os started H enc _ => lifted os started H enc)

/-- The statement. -/
theorem proved : Rows.FnChunkBodySaid := over
#print axioms proved
end Go.Proofs.Ytbleabcobojdcaa.fnChunkBody
