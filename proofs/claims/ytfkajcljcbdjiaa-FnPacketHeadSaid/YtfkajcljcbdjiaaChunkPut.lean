/-
  Writing a chunk.
-/
import Derived.Test.YtfkajcljcbdjiaaWords
import Derived.Deep.RegionHeld3
import Derived.IntWalk
namespace Go.Proofs.Ytfkajcljcbdjiaa
set_option linter.unusedVariables false
set_option linter.unusedSimpArgs false
open Go.RowKit

theorem pad_lt (n : Nat) : padN n ≤ 3 := by unfold padN; omega
theorem pad_step (n j : Nat) (h : j < padN (4 + n)) : ((4 + (n : Int) + (j : Int)) % 4 != 0) = true := by
  unfold padN at h; simp; omega
theorem pad_end (n j : Nat) (h : j = padN (4 + n)) : ((4 + (n : Int) + (j : Int)) % 4 != 0) = false := by
  unfold padN at h; simp; omega
theorem padOf_step (b : ByteArray) (j : Nat) (h : j < padN b.size) : padOf (.string (b ++ zeros (j + 1))) < padOf (.string (b ++ zeros j)) := by
  show padN (b ++ zeros (j + 1)).size < padN (b ++ zeros j).size
  simp only [ByteArray.size_append, zeros_size]
  unfold padN at *; omega

theorem c_ChunkPut_bad (k f : Int) (s : ByteArray) (w : World) (hs : s.size ≤ maxLen) (h : chunkOk k f s = false) : Calls Try.prog 28 #[.agg #[.int .i64 k, .int .i64 f, .string s]] w fun e w' => e = .returned (.string ⟨#[]⟩) ∧ Below w.heap.size w w' := by
  go_enter Try.func28, Try.ntmps28
  go_wp2_with fail
  refine (c_ChunkValid k f s _ hs).mono ?_
  rintro e w1 ⟨rfl, h1⟩
  go_wp2
  go_ret
  exact ⟨rfl, below_step ((Below.refl _ _).alloc (Nat.le_refl _) _) (by simp) h1⟩

theorem c_ChunkPut_ok (k f : Int) (s : ByteArray) (w : World) (hk : 0 ≤ k) (hk1 : k ≤ 255) (hf : 0 ≤ f) (hf1 : f ≤ 255) (hs : s.size ≤ 60) : Calls Try.prog 28 #[.agg #[.int .i64 k, .int .i64 f, .string s]] w fun e w' => e = .returned (.string (cput k f s)) ∧ Below w.heap.size w w' := by
  have kc := fun (w : World) a b => conv2 (P := Try.prog) w 22 5 9 Try.underlying22 Try.underlying5 Try.underlying9 a b
  have hok : chunkOk k f s = true := by unfold chunkOk; simp; omega
  go_enter Try.func28, Try.ntmps28
  go_wp2_with fail
  refine (c_ChunkValid k f s _ (by unfold maxLen; omega)).mono ?_
  rintro e w1 ⟨rfl, h1⟩
  obtain ⟨c0, c1, c2, hlt⟩ := box3 h1
  have hB1 := Lib.hid (below_step ((Below.refl w.heap.size w).alloc (Nat.le_refl _) _) (by simp) h1)
  clear h1
  go_wp2_with fail
  refine (c_WordPut (4 + s.size) _ (by omega) (by omega)).mono ?_
  rintro e u2 ⟨rfl, h2⟩
  have d0 := keep1 h2 hlt c0
  have d1 := keep1 h2 hlt c1
  have d2 := keep1 h2 hlt c2
  have hlt2 := Nat.lt_of_lt_of_le hlt h2.size
  have hB2 := Lib.hid (below_step hB1.out hB1.out.size h2)
  clear h2 hB1 c0 c1 c2
  go_wp2
  go_loop [5] (fun o => ∃ j : Nat, j ≤ padN (4 + s.size) ∧ o = .string (chead k f s ++ zeros j)) (fun o => padOf o)
  case atStart => exact ⟨0, Nat.zero_le _, by rw [zeros_zero, app_empty]; rfl⟩
  case round =>
    obtain ⟨j, hj, rfl⟩ := hrel
    have hp3 := pad_lt (4 + s.size)
    have hj3 : j ≤ 3 := by omega
    clear hp3
    by_cases hlt : j < padN (4 + s.size)
    · have hp := pad_step s.size j hlt
      go_wp2
      go_round
      case rel => exact ⟨j + 1, hlt, by rw [ByteArray.append_assoc, zeros_succ]⟩
      case measure => rw [ByteArray.append_assoc, zeros_succ]; exact padOf_step _ _ (by rw [chead_size]; exact hlt)
    · have hje : j = padN (4 + s.size) := by omega
      have hp := pad_end s.size j hje
      have He := Lib.hid hje
      clear hje hlt
      go_wp2
      go_ret
      refine ⟨ret_string ?_, (hB2.out).alloc hB2.out.size _⟩
      unfold cput padTo
      rw [He.out, chead_size]
theorem c_ChunkPut (k f : Int) (s : ByteArray) (w : World) (hs : s.size ≤ maxLen) : Calls Try.prog 28 #[.agg #[.int .i64 k, .int .i64 f, .string s]] w fun e w' => e = .returned (.string (chunkPutV k f s)) ∧ Below w.heap.size w w' := by
  cases h : chunkOk k f s with
  | false => rw [chunkPutV_no h]; exact c_ChunkPut_bad k f s w hs h
  | true =>
    rw [chunkPutV_ok h]
    unfold chunkOk at h
    simp at h
    exact c_ChunkPut_ok k f s w h.1 h.2.1 h.2.2.1 h.2.2.2.1 h.2.2.2.2

theorem c_l11Put (k f : Int) (s : ByteArray) (w : World) (hk : 0 ≤ k) (hk1 : k ≤ 255) (hf : 0 ≤ f) (hf1 : f ≤ 255) (hs : s.size ≤ 60) : Calls Try.prog 49 #[.agg #[.int .i64 k, .int .i64 f, .string s]] w fun e w' => e = .returned (.string (cput k f s)) ∧ Below w.heap.size w w' := by
  have kc := fun (w : World) a b => conv2 (P := Try.prog) w 22 5 9 Try.underlying22 Try.underlying5 Try.underlying9 a b
  have kd := fun (w : World) a b n hn => conv2d (P := Try.prog) w 22 5 9 Try.underlying22 Try.underlying5 Try.underlying9 a b n hn
  have q1 : IntKind.u8.wrap k = k := by show k % 256 = k; omega
  have q2 : IntKind.u8.wrap f = f := by show f % 256 = f; omega
  have q3 : IntKind.i64.wrap (4 + (s.size : Int)) = 4 + s.size := IntWalk.i64_in _ (by omega)
  have hl := fun (W : World) (h : Below (w.heap.size + 1) (w.alloc (.cells #[.int .i64 k, .int .i64 f, .string s] 41)) W) => box3 (w := w) (w' := W) (t := 41) (a := .int .i64 k) (b := .int .i64 f) (c := .string s) (by simpa using h)
  have hl0 := fun W h => (hl W h).1
  have hl1 := fun W h => (hl W h).2.1
  have hl2 := fun W h => (hl W h).2.2.1
  clear hl
  have hz : ¬ 9223372036854775807 < 4 + s.size := by omega
  have hsz : w.heap.size + 1 ≤ (w.alloc (.cells #[.int .i64 k, .int .i64 f, .string s] 41)).heap.size := by simp
  have hb0 : Below w.heap.size w (w.alloc (.cells #[.int .i64 k, .int .i64 f, .string s] 41)) := (Below.refl _ _).alloc (Nat.le_refl _) _
  have HB0 := Lib.hid hb0
  clear hb0
  go_enter Try.func49, Try.ntmps49
  go_wp2_with fail
  refine wp_region_held_drew (S := fun w' => Below (w.heap.size + 1) (w.alloc (.cells #[.int .i64 k, .int .i64 f, .string s] 41)) w') (by kernel_rfl) (Below.refl _ _).drew (fun hHeld => ?_)
  refine' wpAnyH_take (i := 0) (v := _) rfl (by kernel_rfl) (by kernel_rfl) (by kernel_rfl) (fun _ _ _ h => h) (Or.inl ⟨by rfl, ?hy0⟩) (by assumption) ?rest0
  case hy0 => (intro w hSw; (try dsimp only at hSw); go_simp; try with_reducible rfl)
  try simp only [Act.put, List.getElem_toArray, List.getElem_cons_zero, List.getElem_cons_succ, List.setIfInBounds_toArray, List.set_cons_zero, List.set_cons_succ]
  refine' wpAnyH_take (i := 1) (v := _) rfl (by kernel_rfl) (by kernel_rfl) (by kernel_rfl) (fun _ _ _ h => h) (Or.inl ⟨by rfl, ?hy1⟩) (by assumption) ?rest1
  case hy1 => (intro w hSw; (try dsimp only at hSw); go_simp; try with_reducible rfl)
  try simp only [Act.put, List.getElem_toArray, List.getElem_cons_zero, List.getElem_cons_succ, List.setIfInBounds_toArray, List.set_cons_zero, List.set_cons_succ]
  refine' wpAnyH_take (i := 2) (v := _) rfl (by kernel_rfl) (by kernel_rfl) (by kernel_rfl) (fun _ _ _ h => h) (Or.inl ⟨by rfl, ?hy2⟩) (by assumption) ?rest2
  case hy2 => (intro w hSw; (try dsimp only at hSw); go_simp; try with_reducible rfl)
  try simp only [Act.put, List.getElem_toArray, List.getElem_cons_zero, List.getElem_cons_succ, List.setIfInBounds_toArray, List.set_cons_zero, List.set_cons_succ]
  refine' wpAnyH_take (i := 3) (v := _) rfl (by kernel_rfl) (by kernel_rfl) (by kernel_rfl) (fun _ _ _ h => h) (Or.inl ⟨by rfl, ?hy3⟩) (by assumption) ?rest3
  case hy3 => (intro w hSw; (try dsimp only at hSw); go_simp; try with_reducible rfl)
  try simp only [Act.put, List.getElem_toArray, List.getElem_cons_zero, List.getElem_cons_succ, List.setIfInBounds_toArray, List.set_cons_zero, List.set_cons_succ]
  refine' wpAnyH_take (i := 4) (v := _) rfl (by kernel_rfl) (by kernel_rfl) (by kernel_rfl) (fun _ _ _ h => h) (Or.inl ⟨by rfl, ?hy4⟩) (by assumption) ?rest4
  case hy4 => (intro w hSw; (try dsimp only at hSw); go_simp; try with_reducible rfl)
  try simp only [Act.put, List.getElem_toArray, List.getElem_cons_zero, List.getElem_cons_succ, List.setIfInBounds_toArray, List.set_cons_zero, List.set_cons_succ]
  refine' wpAnyH_take (i := 5) (v := _) rfl (by kernel_rfl) (by kernel_rfl) (by kernel_rfl) (fun _ _ _ h => h) (Or.inl ⟨by rfl, ?hy5⟩) (by assumption) ?rest5
  case hy5 => (intro w hSw; (try dsimp only at hSw); go_simp; try with_reducible rfl)
  try simp only [Act.put, List.getElem_toArray, List.getElem_cons_zero, List.getElem_cons_succ, List.setIfInBounds_toArray, List.set_cons_zero, List.set_cons_succ]
  refine' wpAnyH_take (i := 8) (v := _) rfl (by kernel_rfl) (by kernel_rfl) (by kernel_rfl) (fun _ _ _ h => h) (Or.inl ⟨by rfl, ?hy8⟩) (by assumption) ?rest8
  case hy8 => (intro w hSw; (try dsimp only at hSw); go_simp; try with_reducible rfl)
  try simp only [Act.put, List.getElem_toArray, List.getElem_cons_zero, List.getElem_cons_succ, List.setIfInBounds_toArray, List.set_cons_zero, List.set_cons_succ]
  refine' wpAnyH_take (i := 9) (v := _) rfl (by kernel_rfl) (by kernel_rfl) (by kernel_rfl) (fun _ _ _ h => h) (Or.inl ⟨by rfl, ?hy9⟩) (by assumption) ?rest9
  case hy9 => (intro w hSw; (try dsimp only at hSw); go_simp; try with_reducible rfl)
  try simp only [Act.put, List.getElem_toArray, List.getElem_cons_zero, List.getElem_cons_succ, List.setIfInBounds_toArray, List.set_cons_zero, List.set_cons_succ]
  refine' wpAnyH_take (i := 10) (v := _) rfl (by kernel_rfl) (by kernel_rfl) (by kernel_rfl) (fun _ _ _ h => h) (Or.inl ⟨by rfl, ?hy10⟩) (by assumption) ?rest10
  case hy10 => (intro w hSw; (try dsimp only at hSw); go_simp; try with_reducible rfl)
  try simp only [Act.put, List.getElem_toArray, List.getElem_cons_zero, List.getElem_cons_succ, List.setIfInBounds_toArray, List.set_cons_zero, List.set_cons_succ]
  refine' wpAnyH_take (i := 11) (v := _) rfl (by kernel_rfl) (by kernel_rfl) (by kernel_rfl) (fun _ _ _ h => h) (Or.inl ⟨by rfl, ?hy11⟩) (by assumption) ?rest11
  case hy11 => (intro w hSw; (try dsimp only at hSw); go_simp; try with_reducible rfl)
  try simp only [Act.put, List.getElem_toArray, List.getElem_cons_zero, List.getElem_cons_succ, List.setIfInBounds_toArray, List.set_cons_zero, List.set_cons_succ]
  refine' wpAnyH_take (i := 14) (v := _) rfl (by kernel_rfl) (by kernel_rfl) (by kernel_rfl) (fun _ _ _ h => h) (Or.inl ⟨by rfl, ?hy14⟩) (by assumption) ?rest14
  case hy14 => (intro w hSw; (try dsimp only at hSw); go_simp; try with_reducible rfl)
  try simp only [Act.put, List.getElem_toArray, List.getElem_cons_zero, List.getElem_cons_succ, List.setIfInBounds_toArray, List.set_cons_zero, List.set_cons_succ]
  refine' wpAnyH_take (i := 15) (v := _) rfl (by kernel_rfl) (by kernel_rfl) (by kernel_rfl) (fun _ _ _ h => h) (Or.inl ⟨by rfl, ?hy15⟩) (by assumption) ?rest15
  case hy15 => (intro w hSw; (try dsimp only at hSw); go_simp; try with_reducible rfl)
  try simp only [Act.put, List.getElem_toArray, List.getElem_cons_zero, List.getElem_cons_succ, List.setIfInBounds_toArray, List.set_cons_zero, List.set_cons_succ]
  refine wpAnyH_ready (rs := [6, 12]) (by kernel_rfl) (by simp) ?_
  refine AllReadyH.cons (o := _) rfl (fun K hK => ?_) ?_
  · go_simp
    refine hK.out _ _ (hHeld.alloc (Nat.le_trans hsz hHeld.size) _) (fun hHeld => ?_)
    clear hK K
    try simp only [Act.put, List.getElem_toArray, List.getElem_cons_zero, List.getElem_cons_succ, List.setIfInBounds_toArray, List.set_cons_zero, List.set_cons_succ]
    refine wpAnyH_ready (rs := [7, 12]) (by kernel_rfl) (by simp) ?_
    refine AllReadyH.cons (o := _) rfl (fun K hK => ?_) ?_
    · go_simp
      refine hK.out _ _ (hHeld) (fun hHeld => ?_)
      clear hK K
      try simp only [Act.put, List.getElem_toArray, List.getElem_cons_zero, List.getElem_cons_succ, List.setIfInBounds_toArray, List.set_cons_zero, List.set_cons_succ]
      refine wpAnyH_ready (rs := [12]) (by kernel_rfl) (by simp) ?_
      refine AllReadyH.cons (o := _) rfl (fun K hK => ?_) ?_
      · go_simp
        refine (c_l1Word (4 + s.size) _ (by omega) (by omega)).mono ?_
        rintro e u2 ⟨rfl, h2⟩
        go_wp2_with fail
        refine hK.out _ _ (below_step hHeld (Nat.le_trans hsz hHeld.size) h2) (fun hHeld => ?_)
        clear hK K
        try simp only [Act.put, List.getElem_toArray, List.getElem_cons_zero, List.getElem_cons_succ, List.setIfInBounds_toArray, List.set_cons_zero, List.set_cons_succ]
        refine' wpAnyH_take (i := 13) (v := _) rfl (by kernel_rfl) (by kernel_rfl) (by kernel_rfl) (fun _ _ _ h => h) (Or.inl ⟨by rfl, ?hya13⟩) (by assumption) ?resta13
        case hya13 => (intro w hSw; (try dsimp only at hSw); go_simp; try with_reducible rfl)
        try simp only [Act.put, List.getElem_toArray, List.getElem_cons_zero, List.getElem_cons_succ, List.setIfInBounds_toArray, List.set_cons_zero, List.set_cons_succ]
        refine' wpAnyH_take (i := 16) (v := _) rfl (by kernel_rfl) (by kernel_rfl) (by kernel_rfl) (fun _ _ _ h => h) (Or.inl ⟨by rfl, ?hya16⟩) (by assumption) ?resta16
        case hya16 => (intro w hSw; (try dsimp only at hSw); go_simp; try with_reducible rfl)
        try simp only [Act.put, List.getElem_toArray, List.getElem_cons_zero, List.getElem_cons_succ, List.setIfInBounds_toArray, List.set_cons_zero, List.set_cons_succ]
        refine' wpAnyH_take (i := 17) (v := _) rfl (by kernel_rfl) (by kernel_rfl) (by kernel_rfl) (fun _ _ _ h => h) (Or.inl ⟨by rfl, ?hya17⟩) (by assumption) ?resta17
        case hya17 => (intro w hSw; (try dsimp only at hSw); go_simp; try with_reducible rfl)
        try simp only [Act.put, List.getElem_toArray, List.getElem_cons_zero, List.getElem_cons_succ, List.setIfInBounds_toArray, List.set_cons_zero, List.set_cons_succ]
        refine wpAnyH_done (by kernel_rfl) ?_ _
        go_wp2
        go_loop [3] (fun o => ∃ j : Nat, j ≤ padN (4 + s.size) ∧ o = .string (chead k f s ++ zeros j)) (fun o => padOf o)
        case atStart => exact ⟨0, Nat.zero_le _, by rw [zeros_zero, app_empty]; rfl⟩
        case round =>
          have HB := Lib.hid (HB0.out.trans (hHeld.mono (Nat.le_succ _)))
          clear hHeld
          obtain ⟨j, hj, rfl⟩ := hrel
          have hp3 := pad_lt (4 + s.size)
          have hj3 : j ≤ 3 := by omega
          clear hp3
          by_cases hlt : j < padN (4 + s.size)
          · have hp := pad_step s.size j hlt
            go_wp2
            go_round
            case rel => exact ⟨j + 1, hlt, by rw [ByteArray.append_assoc, zeros_succ]⟩
            case measure => rw [ByteArray.append_assoc, zeros_succ]; exact padOf_step _ _ (by rw [chead_size]; exact hlt)
          · have hje : j = padN (4 + s.size) := by omega
            have hp := pad_end s.size j hje
            have He := Lib.hid hje
            clear hje hlt
            go_wp2
            go_ret
            refine ⟨ret_string ?_, HB.out⟩
            unfold cput padTo
            rw [He.out, chead_size]
      exact AllReadyH.nil
    refine AllReadyH.cons (o := _) rfl (fun K hK => ?_) ?_
    · go_simp
      refine (c_l1Word (4 + s.size) _ (by omega) (by omega)).mono ?_
      rintro e u2 ⟨rfl, h2⟩
      go_wp2_with fail
      have kq := fun n hn => conv2b (P := Try.prog) _ u2 22 5 9 Try.underlying22 Try.underlying5 Try.underlying9 _ _ h2 n hn
      refine hK.out _ _ (below_step hHeld (Nat.le_trans hsz hHeld.size) h2) (fun hHeld => ?_)
      clear hK K
      try simp only [Act.put, List.getElem_toArray, List.getElem_cons_zero, List.getElem_cons_succ, List.setIfInBounds_toArray, List.set_cons_zero, List.set_cons_succ]
      refine wpAnyH_ready (rs := [7]) (by kernel_rfl) (by simp) ?_
      refine AllReadyH.cons (o := _) rfl (fun K hK => ?_) ?_
      · go_simp
        refine hK.out _ _ (hHeld) (fun hHeld => ?_)
        clear hK K
        try simp only [Act.put, List.getElem_toArray, List.getElem_cons_zero, List.getElem_cons_succ, List.setIfInBounds_toArray, List.set_cons_zero, List.set_cons_succ]
        refine' wpAnyH_take (i := 13) (v := _) rfl (by kernel_rfl) (by kernel_rfl) (by kernel_rfl) (fun _ _ _ h => h) (Or.inl ⟨by rfl, ?hyb13⟩) (by assumption) ?restb13
        case hyb13 => (intro w hSw; (try dsimp only at hSw); go_simp; try with_reducible rfl)
        try simp only [Act.put, List.getElem_toArray, List.getElem_cons_zero, List.getElem_cons_succ, List.setIfInBounds_toArray, List.set_cons_zero, List.set_cons_succ]
        refine' wpAnyH_take (i := 16) (v := _) rfl (by kernel_rfl) (by kernel_rfl) (by kernel_rfl) (fun _ _ _ h => h) (Or.inl ⟨by rfl, ?hyb16⟩) (by assumption) ?restb16
        case hyb16 => (intro w hSw; (try dsimp only at hSw); go_simp; try with_reducible rfl)
        try simp only [Act.put, List.getElem_toArray, List.getElem_cons_zero, List.getElem_cons_succ, List.setIfInBounds_toArray, List.set_cons_zero, List.set_cons_succ]
        refine' wpAnyH_take (i := 17) (v := _) rfl (by kernel_rfl) (by kernel_rfl) (by kernel_rfl) (fun _ _ _ h => h) (Or.inl ⟨by rfl, ?hyb17⟩) (by assumption) ?restb17
        case hyb17 => (intro w hSw; (try dsimp only at hSw); go_simp; try with_reducible rfl)
        try simp only [Act.put, List.getElem_toArray, List.getElem_cons_zero, List.getElem_cons_succ, List.setIfInBounds_toArray, List.set_cons_zero, List.set_cons_succ]
        refine wpAnyH_done (by kernel_rfl) ?_ _
        go_wp2
        go_loop [3] (fun o => ∃ j : Nat, j ≤ padN (4 + s.size) ∧ o = .string (chead k f s ++ zeros j)) (fun o => padOf o)
        case atStart => exact ⟨0, Nat.zero_le _, by rw [zeros_zero, app_empty]; rfl⟩
        case round =>
          have HB := Lib.hid (HB0.out.trans (hHeld.mono (Nat.le_succ _)))
          clear hHeld
          obtain ⟨j, hj, rfl⟩ := hrel
          have hp3 := pad_lt (4 + s.size)
          have hj3 : j ≤ 3 := by omega
          clear hp3
          by_cases hlt : j < padN (4 + s.size)
          · have hp := pad_step s.size j hlt
            go_wp2
            go_round
            case rel => exact ⟨j + 1, hlt, by rw [ByteArray.append_assoc, zeros_succ]⟩
            case measure => rw [ByteArray.append_assoc, zeros_succ]; exact padOf_step _ _ (by rw [chead_size]; exact hlt)
          · have hje : j = padN (4 + s.size) := by omega
            have hp := pad_end s.size j hje
            have He := Lib.hid hje
            clear hje hlt
            go_wp2
            go_ret
            refine ⟨ret_string ?_, HB.out⟩
            unfold cput padTo
            rw [He.out, chead_size]
      exact AllReadyH.nil
    exact AllReadyH.nil
  refine AllReadyH.cons (o := _) rfl (fun K hK => ?_) ?_
  · go_simp
    refine (c_l1Word (4 + s.size) _ (by omega) (by omega)).mono ?_
    rintro e u2 ⟨rfl, h2⟩
    go_wp2_with fail
    refine hK.out _ _ (below_step hHeld (Nat.le_trans hsz hHeld.size) h2) (fun hHeld => ?_)
    clear hK K
    try simp only [Act.put, List.getElem_toArray, List.getElem_cons_zero, List.getElem_cons_succ, List.setIfInBounds_toArray, List.set_cons_zero, List.set_cons_succ]
    refine wpAnyH_ready (rs := [6]) (by kernel_rfl) (by simp) ?_
    refine AllReadyH.cons (o := _) rfl (fun K hK => ?_) ?_
    · go_simp
      refine hK.out _ _ (hHeld.alloc (Nat.le_trans hsz hHeld.size) _) (fun hHeld => ?_)
      clear hK K
      try simp only [Act.put, List.getElem_toArray, List.getElem_cons_zero, List.getElem_cons_succ, List.setIfInBounds_toArray, List.set_cons_zero, List.set_cons_succ]
      refine wpAnyH_ready (rs := [7]) (by kernel_rfl) (by simp) ?_
      refine AllReadyH.cons (o := _) rfl (fun K hK => ?_) ?_
      · go_simp
        refine hK.out _ _ (hHeld) (fun hHeld => ?_)
        clear hK K
        try simp only [Act.put, List.getElem_toArray, List.getElem_cons_zero, List.getElem_cons_succ, List.setIfInBounds_toArray, List.set_cons_zero, List.set_cons_succ]
        refine' wpAnyH_take (i := 13) (v := _) rfl (by kernel_rfl) (by kernel_rfl) (by kernel_rfl) (fun _ _ _ h => h) (Or.inl ⟨by rfl, ?hyc13⟩) (by assumption) ?restc13
        case hyc13 => (intro w hSw; (try dsimp only at hSw); go_simp; try with_reducible rfl)
        try simp only [Act.put, List.getElem_toArray, List.getElem_cons_zero, List.getElem_cons_succ, List.setIfInBounds_toArray, List.set_cons_zero, List.set_cons_succ]
        refine' wpAnyH_take (i := 16) (v := _) rfl (by kernel_rfl) (by kernel_rfl) (by kernel_rfl) (fun _ _ _ h => h) (Or.inl ⟨by rfl, ?hyc16⟩) (by assumption) ?restc16
        case hyc16 => (intro w hSw; (try dsimp only at hSw); go_simp; try with_reducible rfl)
        try simp only [Act.put, List.getElem_toArray, List.getElem_cons_zero, List.getElem_cons_succ, List.setIfInBounds_toArray, List.set_cons_zero, List.set_cons_succ]
        refine' wpAnyH_take (i := 17) (v := _) rfl (by kernel_rfl) (by kernel_rfl) (by kernel_rfl) (fun _ _ _ h => h) (Or.inl ⟨by rfl, ?hyc17⟩) (by assumption) ?restc17
        case hyc17 => (intro w hSw; (try dsimp only at hSw); go_simp; try with_reducible rfl)
        try simp only [Act.put, List.getElem_toArray, List.getElem_cons_zero, List.getElem_cons_succ, List.setIfInBounds_toArray, List.set_cons_zero, List.set_cons_succ]
        refine wpAnyH_done (by kernel_rfl) ?_ _
        go_wp2
        go_loop [3] (fun o => ∃ j : Nat, j ≤ padN (4 + s.size) ∧ o = .string (chead k f s ++ zeros j)) (fun o => padOf o)
        case atStart => exact ⟨0, Nat.zero_le _, by rw [zeros_zero, app_empty]; rfl⟩
        case round =>
          have HB := Lib.hid (HB0.out.trans (hHeld.mono (Nat.le_succ _)))
          clear hHeld
          obtain ⟨j, hj, rfl⟩ := hrel
          have hp3 := pad_lt (4 + s.size)
          have hj3 : j ≤ 3 := by omega
          clear hp3
          by_cases hlt : j < padN (4 + s.size)
          · have hp := pad_step s.size j hlt
            go_wp2
            go_round
            case rel => exact ⟨j + 1, hlt, by rw [ByteArray.append_assoc, zeros_succ]⟩
            case measure => rw [ByteArray.append_assoc, zeros_succ]; exact padOf_step _ _ (by rw [chead_size]; exact hlt)
          · have hje : j = padN (4 + s.size) := by omega
            have hp := pad_end s.size j hje
            have He := Lib.hid hje
            clear hje hlt
            go_wp2
            go_ret
            refine ⟨ret_string ?_, HB.out⟩
            unfold cput padTo
            rw [He.out, chead_size]
      exact AllReadyH.nil
    exact AllReadyH.nil
  exact AllReadyH.nil
end Go.Proofs.Ytfkajcljcbdjiaa
