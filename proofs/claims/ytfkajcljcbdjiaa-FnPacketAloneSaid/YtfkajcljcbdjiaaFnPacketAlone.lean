/-
  Some chunks are alone: for every code. No condition.
-/
import Derived.Test.YtfkajcljcbdjiaaDrawPackL
import Derived.Test.YtfkajcljcbdjiaaDrawAlone
import Derived.Test.YtfkajcljcbdjiaaPkAlone
import Derived.Test.YtfkajcljcbdjiaaOpen
namespace Go.Proofs.Ytfkajcljcbdjiaa.fnPacketAlone
open Go.ChangeShapes Go.WideShapes Go.ChangeAt Go.RowKit
open Go.ChangeMaps (open_string shut_string)
set_option linter.unusedVariables false
set_option linter.unusedSimpArgs false
set_option maxRecDepth 100000 in
set_option maxHeartbeats 8000000 in
theorem walk (a0 : Option Addr) (n0 c0 : Nat) (w : World) (w0 : Code w a0 n0 c0) :
    Calls Try.prog 8 #[.slice a0 n0 c0] w fun e w' => e = .returned (.bool true) ∧ Below w.heap.size w w' := by
  have hc := w0.2.1
  unfold maxLen at hc
  have hn := w0.1
  by_cases hbig : 1048576 < n0
  · go_enter Try.func8, Try.ntmps8
    go_wp2
    go_ret
    exact ⟨rfl, Below.refl _ _⟩
  have hq : ∀ b : Bool, (b != b) = false := fun b => by simp
  have hq2 : ∀ b : Bool, (b == b) = true := fun b => by simp
  have hq3 : ∀ b : Int, (b != b) = false := fun b => by simp
  have hq4 : ∀ b : Int, (b == b) = true := fun b => by simp
  have hq5 : ∀ b : ByteArray, (b.toList == b.toList) = true := fun b => by simp
  have hq6 : ∀ b : ByteArray, (b.toList != b.toList) = false := fun b => by simp
  have B0 := Lib.hid (Below.refl w.heap.size w)
  go_enter Try.func8, Try.ntmps8
  go_wp2_with fail
  refine (c_DrawPacketAlone a0 n0 c0 _ w0).mono ?_
  rintro e w1 ⟨f, t, g, A, n, c, xs, rfl, hf0, hf1, ht0, ht1, hg0, hg1, hn9, hnc, hcm, hgood, hG, h1⟩
  have B1 := Lib.hid (below_step (B := w.heap.size) (w0 := w) (by (repeat' (first | with_reducible exact B0.out | with_reducible exact Below.refl _ _ | with_reducible refine below_drew1 ?_ | with_reducible refine below_drewN ?_ _ | with_reducible refine Below.alloc ?_ ?_ _ | with_reducible refine Below.setCell ?_ ?_ _ | omega | (simp; done) | (simp; omega)))) (by have := B0.out.size; (first | omega | (simp; done) | (simp; omega))) h1)
  have z1 : w.heap.size ≤ w1.heap.size := B1.out.size
  clear h1 B0
  have GA_1 : Gaps w1 w1.heap.size A n xs := hG
  have GA_z1 : w1.heap.size ≤ w1.heap.size := by omega
  have HL := Lib.hid hG.1
  have HGD := Lib.hid hgood
  have hnm : n ≤ maxLen := by unfold maxLen; omega
  have HS := Lib.hid (show ∀ i, i < n → (xs.getD i ch0).2.2.size ≤ maxLen from fun i hi => by have := HGD.out.get i (by rw [HL.out]; exact hi); unfold maxLen; omega)
  clear hG hn hc hgood
  have ci := fun W h1 h2 => c_PacketAlone f t g A n c xs w1.heap.size W h1 h2 hnm HS.out
  have cs := fun W h1 h2 => c_sPacketAlone f t g A n c xs w1.heap.size W h1 h2 hnm HS.out
  have cv := fun W h1 h2 => c_PacketValid f t g A n c xs w1.heap.size W h1 h2 hnm HS.out
  obtain ⟨v, hv⟩ : ∃ v, pkAloneV f t g xs = v := ⟨_, rfl⟩
  obtain ⟨ok, hok⟩ : ∃ ok, pkOkV f t g xs = ok := ⟨_, rfl⟩
  rw [hv] at ci cs
  rw [hok] at cv
  have HV := Lib.hid (show v = (ok && (decide (n = 1) || !anyAlone xs)) by rw [← hv]; unfold pkAloneV; rw [hok, HL.out])
  have CV := Lib.hid cv
  clear hv hok cv
  have CI := Lib.hid ci
  have CS := Lib.hid cs
  clear ci cs
  go_wp2_with fail
  refine (CI.out _ (by (repeat' (first | (with_reducible exact GA_1) | with_reducible refine Gaps.alloc ?_ ?_ _ | with_reducible refine Gaps.setCell ?_ ?_ _ | with_reducible refine Gaps.drew ?_ | with_reducible refine Gaps.drewN ?_ _ | omega | (simp; done) | (simp; omega)))) (by first | omega | (simp; done) | (simp; omega))).mono ?_
  rintro e w2 ⟨rfl, h2⟩
  have P_2 : Blk w2 (w1.heap.size) 25 #[.int .i64 f, .int .i64 t, .int .i64 g, .slice A n c] := Blk.below (by (repeat' (first | (with_reducible refine Blk.drewN ?_ _) | (with_reducible refine Blk.drew ?_) | (with_reducible refine Blk.new1 ?hb; case hb => (first | omega | (simp; done) | (simp; omega))) | (with_reducible refine Blk.alloc ?_ _) | (with_reducible refine' Blk.set2_0 ?_ ?hb; case hb => (first | omega | (simp; done) | (simp; omega))) | (with_reducible refine' Blk.set2_1 ?_ ?hb; case hb => (first | omega | (simp; done) | (simp; omega))) | (with_reducible refine' Blk.set3_0 ?_ ?hb; case hb => (first | omega | (simp; done) | (simp; omega))) | (with_reducible refine' Blk.set3_1 ?_ ?hb; case hb => (first | omega | (simp; done) | (simp; omega))) | (with_reducible refine' Blk.set3_2 ?_ ?hb; case hb => (first | omega | (simp; done) | (simp; omega))) | (with_reducible refine' Blk.set4_0 ?_ ?hb; case hb => (first | omega | (simp; done) | (simp; omega))) | (with_reducible refine' Blk.set4_1 ?_ ?hb; case hb => (first | omega | (simp; done) | (simp; omega))) | (with_reducible refine' Blk.set4_2 ?_ ?hb; case hb => (first | omega | (simp; done) | (simp; omega))) | (with_reducible refine' Blk.set4_3 ?_ ?hb; case hb => (first | omega | (simp; done) | (simp; omega))) | (with_reducible refine' Blk.set7_0 ?_ ?hb; case hb => (first | omega | (simp; done) | (simp; omega))) | (with_reducible refine' Blk.set7_1 ?_ ?hb; case hb => (first | omega | (simp; done) | (simp; omega))) | (with_reducible refine' Blk.set7_2 ?_ ?hb; case hb => (first | omega | (simp; done) | (simp; omega))) | (with_reducible refine' Blk.set7_3 ?_ ?hb; case hb => (first | omega | (simp; done) | (simp; omega))) | (with_reducible refine' Blk.set7_4 ?_ ?hb; case hb => (first | omega | (simp; done) | (simp; omega))) | (with_reducible refine' Blk.set7_5 ?_ ?hb; case hb => (first | omega | (simp; done) | (simp; omega))) | (with_reducible refine' Blk.set7_6 ?_ ?hb; case hb => (first | omega | (simp; done) | (simp; omega))) | (with_reducible refine Blk.far ?_ ?hb _; case hb => (first | omega | (simp; done) | (simp; omega))) | fail))) h2 (by (first | omega | (simp; done) | (simp; omega)))
  have GA_2 : Gaps w2 w1.heap.size A n xs := Gaps.below (by (repeat' (first | (with_reducible exact GA_1) | with_reducible refine Gaps.alloc ?_ ?_ _ | with_reducible refine Gaps.setCell ?_ ?_ _ | with_reducible refine Gaps.drew ?_ | with_reducible refine Gaps.drewN ?_ _ | omega | (simp; done) | (simp; omega)))) h2 (by (first | omega | (simp; done) | (simp; omega)))
  have GA_z2 : w1.heap.size ≤ w2.heap.size := by have := h2.size; first | omega | (simp at this; omega)
  have B2 := Lib.hid (below_step (B := w.heap.size) (w0 := w) (by (repeat' (first | with_reducible exact B1.out | with_reducible exact Below.refl _ _ | with_reducible refine below_drew1 ?_ | with_reducible refine below_drewN ?_ _ | with_reducible refine Below.alloc ?_ ?_ _ | with_reducible refine Below.setCell ?_ ?_ _ | omega | (simp; done) | (simp; omega)))) (by have := B1.out.size; (first | omega | (simp; done) | (simp; omega))) h2)
  have z2 : w.heap.size ≤ w2.heap.size := B2.out.size
  have y2 : w1.heap.size ≤ w2.heap.size := by have := h2.size; first | omega | (simp at this; omega)
  clear h2 B1 z1 GA_1 GA_z1
  obtain ⟨⟨P_0_, P_1_, P_2_, P_3_⟩, P_f0_, P_f1_, P_f2_, P_f3_⟩ := P_2.get4
  have P_l := P_2.lt
  have P_l1_ : w1.heap.size < w2.heap.size + 1 := by omega
  have P_l2_ : w1.heap.size < w2.heap.size + 2 := by omega
  have P_l3_ : w1.heap.size < w2.heap.size + 3 := by omega
  have P_l4_ : w1.heap.size < w2.heap.size + 4 := by omega
  go_wp2_with fail
  refine (CS.out _ (by (repeat' (first | (with_reducible exact GA_2) | with_reducible refine Gaps.alloc ?_ ?_ _ | with_reducible refine Gaps.setCell ?_ ?_ _ | with_reducible refine Gaps.drew ?_ | with_reducible refine Gaps.drewN ?_ _ | omega | (simp; done) | (simp; omega)))) (by first | omega | (simp; done) | (simp; omega))).mono ?_
  rintro e w3 ⟨rfl, h3⟩
  have P_3 : Blk w3 (w1.heap.size) 25 #[.int .i64 f, .int .i64 t, .int .i64 g, .slice A n c] := Blk.below (by (repeat' (first | (with_reducible exact P_2) | (with_reducible refine Blk.drewN ?_ _) | (with_reducible refine Blk.drew ?_) | (with_reducible refine Blk.new1 ?hb; case hb => (first | omega | (simp; done) | (simp; omega))) | (with_reducible refine Blk.alloc ?_ _) | (with_reducible refine' Blk.set2_0 ?_ ?hb; case hb => (first | omega | (simp; done) | (simp; omega))) | (with_reducible refine' Blk.set2_1 ?_ ?hb; case hb => (first | omega | (simp; done) | (simp; omega))) | (with_reducible refine' Blk.set3_0 ?_ ?hb; case hb => (first | omega | (simp; done) | (simp; omega))) | (with_reducible refine' Blk.set3_1 ?_ ?hb; case hb => (first | omega | (simp; done) | (simp; omega))) | (with_reducible refine' Blk.set3_2 ?_ ?hb; case hb => (first | omega | (simp; done) | (simp; omega))) | (with_reducible refine' Blk.set4_0 ?_ ?hb; case hb => (first | omega | (simp; done) | (simp; omega))) | (with_reducible refine' Blk.set4_1 ?_ ?hb; case hb => (first | omega | (simp; done) | (simp; omega))) | (with_reducible refine' Blk.set4_2 ?_ ?hb; case hb => (first | omega | (simp; done) | (simp; omega))) | (with_reducible refine' Blk.set4_3 ?_ ?hb; case hb => (first | omega | (simp; done) | (simp; omega))) | (with_reducible refine' Blk.set7_0 ?_ ?hb; case hb => (first | omega | (simp; done) | (simp; omega))) | (with_reducible refine' Blk.set7_1 ?_ ?hb; case hb => (first | omega | (simp; done) | (simp; omega))) | (with_reducible refine' Blk.set7_2 ?_ ?hb; case hb => (first | omega | (simp; done) | (simp; omega))) | (with_reducible refine' Blk.set7_3 ?_ ?hb; case hb => (first | omega | (simp; done) | (simp; omega))) | (with_reducible refine' Blk.set7_4 ?_ ?hb; case hb => (first | omega | (simp; done) | (simp; omega))) | (with_reducible refine' Blk.set7_5 ?_ ?hb; case hb => (first | omega | (simp; done) | (simp; omega))) | (with_reducible refine' Blk.set7_6 ?_ ?hb; case hb => (first | omega | (simp; done) | (simp; omega))) | (with_reducible refine Blk.far ?_ ?hb _; case hb => (first | omega | (simp; done) | (simp; omega))) | fail))) h3 (by (first | omega | (simp; done) | (simp; omega)))
  have GA_3 : Gaps w3 w1.heap.size A n xs := Gaps.below (by (repeat' (first | (with_reducible exact GA_2) | with_reducible refine Gaps.alloc ?_ ?_ _ | with_reducible refine Gaps.setCell ?_ ?_ _ | with_reducible refine Gaps.drew ?_ | with_reducible refine Gaps.drewN ?_ _ | omega | (simp; done) | (simp; omega)))) h3 (by (first | omega | (simp; done) | (simp; omega)))
  have GA_z3 : w1.heap.size ≤ w3.heap.size := by have := h3.size; first | omega | (simp at this; omega)
  have B3 := Lib.hid (below_step (B := w.heap.size) (w0 := w) (by (repeat' (first | with_reducible exact B2.out | with_reducible exact Below.refl _ _ | with_reducible refine below_drew1 ?_ | with_reducible refine below_drewN ?_ _ | with_reducible refine Below.alloc ?_ ?_ _ | with_reducible refine Below.setCell ?_ ?_ _ | omega | (simp; done) | (simp; omega)))) (by have := B2.out.size; (first | omega | (simp; done) | (simp; omega))) h3)
  have z3 : w.heap.size ≤ w3.heap.size := B3.out.size
  have y3 : w2.heap.size ≤ w3.heap.size := by have := h3.size; first | omega | (simp at this; omega)
  clear h3 B2 z2 P_2 GA_2 GA_z2 y2
  try clear P_l P_0_ P_1_ P_2_ P_3_ P_l1_ P_l2_ P_l3_ P_l4_
  obtain ⟨⟨P_0_, P_1_, P_2_, P_3_⟩, P_f0_, P_f1_, P_f2_, P_f3_⟩ := P_3.get4
  have P_l := P_3.lt
  have P_l1_ : w1.heap.size < w3.heap.size + 1 := by omega
  have P_l2_ : w1.heap.size < w3.heap.size + 2 := by omega
  have P_l3_ : w1.heap.size < w3.heap.size + 3 := by omega
  have P_l4_ : w1.heap.size < w3.heap.size + 4 := by omega
  have G3 := GA_3
  have P3 := Lib.hid P_3
  clear CI CS GA_3
  go_wp2
  go_loopw [6, 7, 8] (fun some_ i _ wr => ∃ (j : Nat) (b : Bool), j ≤ n ∧ i = .int .i64 j ∧ some_ = .bool b ∧ (b || anyAlone (xs.drop j)) = anyAlone xs ∧ Below w3.heap.size w3 wr) (fun _ i _ _ => n - (intOf i).toNat)
  case atStart => exact ⟨0, false, Nat.zero_le _, rfl, rfl, rfl, Below.refl _ _⟩
  case round =>
    obtain ⟨j, b, hj, rfl, rfl, hany, hB⟩ := hrel
    have BR := Lib.hid hB
    have ANY := Lib.hid hany
    have zr := hB.size
    have P4 : Blk wr w1.heap.size 25 #[.int .i64 f, .int .i64 t, .int .i64 g, .slice A n c] := P3.out.below hB P3.out.lt
    have G4 : Gaps wr w1.heap.size A n xs := Gaps.below G3 hB (by omega)
    obtain ⟨⟨p0, p1, p2, p3⟩, q0, q1, q2, q3⟩ := P4.get4
    have plw := P4.lt
    clear hB hany P_0_ P_1_ P_2_ P_3_ P_f0_ P_f1_ P_f2_ P_f3_ P_3
    by_cases hlt : j < n
    · obtain ⟨b', o, rfl, hb, hc⟩ := G4.2 (by omega)
      obtain ⟨d0, _, _⟩ := hc j hlt
      have hst := Lib.hid (anyAlone_step (xs := xs) (j := j) (by rw [HL.out]; exact hlt))
      generalize hgx : xs.getD j ch0 = y at *
      obtain ⟨a, e, u⟩ := y
      clear hgx hc
      simp only at d0
      have hjn : (j : Int) < (n : Int) := by omega
      have hj0 : (0 : Int) ≤ (j : Int) := by omega
      have ANY2 := Lib.hid (show ((b || aloneK a) || anyAlone (xs.drop (j + 1))) = anyAlone xs by rw [← ANY.out, hst.out, Bool.or_assoc])
      clear hst ANY
      cases b with
      | true =>
        go_wp2
        go_roundw
        case rel => exact ⟨j + 1, true, by omega, by go_num, rfl, ANY2.out, BR.out⟩
        case measure => simp [intOf]; omega
      | false =>
        cases ha : aloneK a with
        | true =>
          rw [ha] at ANY2
          rcases aloneK_yes ha with rfl | rfl | rfl
          all_goals
            go_wp2
            go_roundw
            case rel => exact ⟨j + 1, true, by omega, by go_num, rfl, ANY2.out, BR.out⟩
            case measure => simp [intOf]; omega
        | false =>
          rw [ha] at ANY2
          obtain ⟨a1, a2, a3⟩ := aloneK_no ha
          go_wp2
          go_roundw
          case rel => exact ⟨j + 1, false, by omega, by go_num, rfl, ANY2.out, BR.out⟩
          case measure => simp [intOf]; omega
    · have hje : j = n := by omega
      subst hje
      have hbe : b = anyAlone xs := by have := ANY.out; rw [List.drop_eq_nil_of_le (Nat.le_of_eq HL.out)] at this; simpa [anyAlone] using this
      have HV2 := Lib.hid (show v = (ok && (decide (j = 1) || !b)) by rw [HV.out, hbe])
      clear ANY HV hbe
      have BB := Lib.hid (below_step (B := w.heap.size) (w0 := w) B3.out B3.out.size BR.out)
      go_wp2_with fail
      refine (CV.out _ G4 (by omega)).mono ?_
      rintro e w5 ⟨rfl, h5⟩
      have P5 : Blk w5 w1.heap.size 25 #[.int .i64 f, .int .i64 t, .int .i64 g, .slice A j c] := P4.below h5 P4.lt
      obtain ⟨⟨p0, p1, p2, p3⟩, q0, q1, q2, q3⟩ := P5.get4
      have plw5 := P5.lt
      have B5 := Lib.hid (below_step (B := w.heap.size) (w0 := w) BB.out BB.out.size h5)
      clear h5 P5 P4
      cases ok with
      | false =>
        have hvf : v = false := by rw [HV2.out]; rfl
        subst hvf
        go_wp2
        go_ret
        exact ⟨rfl, B5.out⟩
      | true =>
        by_cases h1 : j = 1
        · have hvt : v = true := by rw [HV2.out, h1]; rfl
          subst hvt
          have h1b : ((j : Int) == 1) = true := by simp; omega
          go_wp2
          go_ret
          exact ⟨rfl, B5.out⟩
        · have h1b : ((j : Int) == 1) = false := by simp; omega
          have hvt : v = !b := by rw [HV2.out]; simp [h1]
          subst hvt
          cases b
          all_goals
            go_wp2
            go_ret
            exact ⟨rfl, B5.out⟩

/-! ### The row's step -/
theorem own : ownKnob Try.prog.godebug = none := by kernel_rfl
theorem laidOut : laidOutB Try.prog = true := by kernel_rfl
set_option maxRecDepth 100000 in
theorem lifted (os : Os) (started : os.Started) (H : Type) (enc : TypeId × Value → H) :
    ReturnsInHanded {} Try.checked os 8 .any (Rows.fnPacketAloneSpec.pre6 enc Try.prog Try.f8 Rows.fnPacketAloneRow.domain false) (Rows.fnPacketAloneSpec.post enc Try.prog Try.f8 false true false false) := by
  refine returnsInHanded_of_change (C := Try.checked) own started (by kernel_rfl) Try.func8
    (ChangeSpec.witness6 (enc := enc) (C := Try.checked) false ⟨#[], #[.slice none 0 0], []⟩ 8 (by kernel_rfl) (by kernel_rfl) (by kernel_rfl) (by kernel_rfl)) ?_
  intro W base args ds gs before hval0 hW hcnd _
  have hval : ∀ (j : Nat) t v, Try.f8.params[j]? = some t → args[j]? = some v → Value.okWide Try.prog W .any base t v := hval0
  have hW' := hW
  obtain ⟨p, q, hA0, hV, rfl, hfz, hnd⟩ := hW
  have hA : DataW.TrodAll enc Try.prog W 0 (fun _ => true) true Try.f8.params.toList args.toList ds p := hA0
  rw [Try.params8] at hA hval
  obtain ⟨v0, vs0, d0, ds0, p0, q0, hargs, rfl, rfl, h0, r0⟩ := trodAll_cons hA
  obtain ⟨rfl, rfl, rfl⟩ := trodAll_nil r0
  obtain rfl : args = #[v0] := by cases args; simp_all
  obtain ⟨rfl, rfl⟩ := trodVars_none hV
  have k0 := h0
  have lt0 : ∀ x ∈ p0, x.block < W.heap.size := by obtain ⟨m, hm⟩ := k0; exact DataW.trod_lt m _ _ _ hm
  obtain ⟨a0, n0, c0, rfl⟩ := okWide_slice Try.underlying22 (hval 0 22 v0 rfl rfl)
  have w0 : Code W a0 n0 c0 := by obtain ⟨fuel, hf⟩ := h0; exact code_of Try.underlying22 Try.underlying5 (by kernel_rfl) hf
  clear hA0 hval0
  refine (walk a0 n0 c0 W w0).mono fun e W' ⟨he, bel⟩ => ?_
  subst he
  exact ⟨_, rfl, _, _, _, [], _, [], hW', trodAll_mk1 (shut_bool Try.underlying4 _), (trodAll_cons_mk (Below.trod laidOut (by kernel_rfl) (of_decide_eq_true (by kernel_rfl)) k0 bel lt0) trodAll_mk0), rfl, bel.frame _, fun h => by cases h⟩

theorem over : Rows.fnPacketAloneRow.holds Try.pinned (OpenSpec.ofChange Rows.fnPacketAloneSpec) :=
  OpenClaim.holds_of_wide 8 Try.f8 rfl rfl rfl rfl rfl rfl rfl ⟨rfl, rfl, rfl, rfl, rfl⟩ rfl rfl rfl rfl rfl (by kernel_rfl) Try.func8 (by kernel_rfl)
    (of_decide_eq_true (by kernel_rfl)) (by unfold Func.isWrapper; first | (rw [if_pos (by decide +kernel)]; kernel_rfl) | (rw [if_neg (by decide +kernel)]; exact ⟨rfl, rfl⟩))
    (fun os started H enc _ => lifted os started H enc)

/-- The statement. -/
theorem proved : Rows.FnPacketAloneSaid := over
#print axioms proved
end Go.Proofs.Ytfkajcljcbdjiaa.fnPacketAlone
