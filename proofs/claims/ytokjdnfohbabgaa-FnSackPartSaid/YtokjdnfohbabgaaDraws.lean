/-
  Drawn numbers, texts and chunks.
-/
import Derived.Test.YtokjdnfohbabgaaNames
import Derived.Test.YtokjdnfohbabgaaBlk
import Derived.LoopTactic
import Derived.Deep.AppendLies
namespace Go.Proofs.Ytokjdnfohbabgaa
set_option linter.unusedVariables false
set_option linter.unusedSimpArgs false
open Go.RowKit

theorem gkeep {W W' : World} {g b o : Nat} {v : Value} (hg : W.grownBy W' (some g)) (hlt : b < W.heap.size) (hne : b ≠ g) (h : W.cell? ⟨b, o, none⟩ = some v) : W'.cell? ⟨b, o, none⟩ = some v :=
  (gcell hg b o hlt hne).trans h
/-- An element of a literal of numbers. -/
theorem lit_at (cs : List Int) (lo hi : Int) (h : ∀ x ∈ cs, lo ≤ x ∧ x ≤ hi) (v : Int) (hv : 0 ≤ v) (hv1 : v < cs.length) : ∃ x, (cs.map (Value.int .i64)).toArray[v.toNat]? = some (.int .i64 x) ∧ lo ≤ x ∧ x ≤ hi := by
  have hl : v.toNat < cs.length := by omega
  refine ⟨cs[v.toNat], ?_, h _ (List.getElem_mem hl)⟩
  simp [List.getElem?_eq_getElem hl]
/-- A literal laid ahead of a pick: the element picked. -/
theorem lit_picked {w w' : World} {g : Nat} {t : TypeId} (cs : List Int) (lo hi : Int) (h : ∀ x ∈ cs, lo ≤ x ∧ x ≤ hi) (v : Int) (hv : 0 ≤ v) (hv1 : v < cs.length) (hg : (w.alloc (.cells (cs.map (Value.int .i64)).toArray t)).grownBy w' (some g)) (hgw : g < w.heap.size) :
    ∃ x, w'.cell? ⟨w.heap.size, v.toNat, none⟩ = some (.int .i64 x) ∧ lo ≤ x ∧ x ≤ hi := by
  obtain ⟨x, h1, h2⟩ := lit_at cs lo hi h v hv hv1
  exact ⟨x, gkeep hg (by simp) (by omega) (by rw [World.cell?_alloc_mark]; exact h1), h2⟩

theorem Try.infoByte : (Try.prog.info? 5).map (fun i => (i.zero, i.size, i.bytes)) = some (some (.int .u8 0), 1, 1) := by kernel_rfl
theorem strOfNums_size (xs : List Int) : (strOfNums xs).size = xs.length := by simp [strOfNums, ByteArray.size]
/-- The conversion of a row of the call's own, whatever it is. -/
theorem conv_own {P : Program} (w : World) (src e dst : TypeId) (hs : P.underlying src = some (.slice e)) (he : P.underlying e = some (.int .u8)) (hd : P.underlying dst = some .string) (base : Nat) (v : Value) (n : Nat) (xs : List Int)
    (h : w.ownsRow base e 1 v n (xs.map (Value.int .u8))) : (convert src dst v).run P w = .ok (.string (strOfNums xs)) w := by
  have hl : xs.length = n := by simpa using h.1
  rcases h.2 with ⟨rfl, hx⟩ | ⟨g, cap, cur, rfl, _⟩
  · have : xs = [] := List.eq_nil_of_length_eq_zero (by omega)
    subst this
    rw [run_convert_bytes_nil (P := P) w src e hs he 0 0 dst hd]
    rfl
  · exact run_convert_bytes_arg (P := P) w src e hs he g 0 n cap xs hl (fun i hi => by
      have := h.cellAt (g := g) i (by omega)
      rw [Nat.zero_add, this]
      simp [List.getElem?_eq_getElem (show i < xs.length by omega), List.getD]) dst hd
/-- A row of the call's own is not an older block. -/
theorem own_ne {w : World} {base : Nat} {e : TypeId} {size : Nat} {v : Value} {n : Nat} {xs : List Value} (h : w.ownsRow base e size v n xs) {g : Nat} (hg : g < base) : v.ownBlock = none ∨ v.ownBlock ≠ some g := by
  rcases h.2 with ⟨rfl, _⟩ | ⟨g', cap, cur, rfl, hb, _⟩
  · exact .inl rfl
  · refine .inr fun he => ?_
    have : g' = g := by simpa [Value.ownBlock] using he
    omega
/-- .. so that what lies below it is as it was where it turned. -/
theorem below_row {w w' : World} {base : Nat} {e : TypeId} {size : Nat} {v : Value} {n : Nat} {xs : List Value} (h : w.ownsRow base e size v n xs) (hgr : w.grownBy w' v.ownBlock) (hB : base ≤ w.heap.size) : Below base w w' :=
  (Below.refl base w).grown hgr hB (fun k hk => by
    rcases h.2 with ⟨rfl, _⟩ | ⟨g', cap, cur, rfl, hb, _⟩
    · cases hk
    · have : g' = k := by simpa [Value.ownBlock] using hk
      omega)
theorem only_then_below {a b c : World} {g : Nat} (h : a.grownBy b (some g)) (k : Below a.heap.size b c) : a.grownBy c (some g) :=
  ⟨k.os.trans h.os, k.tape.trans h.tape, k.output.trans h.output, Nat.le_trans h.size k.size, fun i hi hne => (k.block i hi).trans (h.block i hi hne)⟩
/-- What holds at each round of l91Bytes. -/
def BytesRel (w : World) (g k B n : Nat) (out i : Value) (wr : World) : Prop :=
  ∃ (j : Nat) (xs : List Int), j ≤ n ∧ i = .int .i64 j ∧ wr.ownsRow B 5 1 out j (xs.map (Value.int .u8)) ∧ Rd wr g (k + 2 * j) ∧ w.grownBy wr (some g) ∧ B ≤ wr.heap.size
theorem c_l91Bytes (g k n : Nat) (w : World) (hR : Rd w g k) (hk : k ≤ 90000) (hn : n ≤ 100) :
    Calls Try.prog 64 #[.pointer (some ⟨g, 0, none⟩), .int .i64 n] w (RdStr w g (k + 1 + 2 * n) n) := by
  obtain ⟨i0, hi, hz0, hz1, hz2⟩ := info_parts Try.infoByte
  go_enter Try.func64, Try.ntmps64
  go_wp2_with fail
  refine (c_pick g k (n + 1) _ (hR.alloc _) (by omega) (by omega)).mono ?_
  rintro e w1 ⟨v, rfl, hv0, hv1, hR1, hg1⟩
  obtain ⟨m, rfl⟩ := Int.eq_ofNat_of_zero_le hv0
  have hown : w1.ownsRow w.heap.size 5 1 (.slice (some ⟨w.heap.size, 0, none⟩) 0 0) 0 (([] : List Int).map (Value.int .u8)) :=
    World.ownsRow.kept (World.ownsRow_lit w #[] 0 (Nat.le_refl _) (by decide) rfl) hg1 (by simp [Value.ownBlock]; have := hR.lt; omega)
  have hw1 : w.grownBy w1 (some g) := only_trans (only_alloc (only_refl _ _) _) hg1
  go_wp2
  go_loopw [5, 7] (fun out i wr => BytesRel w g (k + 1) w.heap.size m out i wr) (fun _ i _ => m - (intOf i).toNat)
  case atStart => exact ⟨0, [], Nat.zero_le _, rfl, hown, hR1.mono (by omega), hw1, hw1.size⟩
  case round =>
    obtain ⟨j, xs, hj, rfl, hown2, hR2, hg2, hB⟩ := hrel
    have hgw := hR.lt
    by_cases hlt : j < m
    · go_wp2_with fail
      refine (c_pick g (k + 1 + 2 * j) 16 _ hR2 (by omega) (by omega)).mono ?_
      rintro e w2 ⟨a, rfl, ha0, ha1, hR3, hg3⟩
      go_wp2_with fail
      refine (c_pick g (k + 1 + 2 * j + 1) 18 _ hR3 (by omega) (by omega)).mono ?_
      rintro e w3 ⟨b, rfl, hb0, hb1, hR4, hg4⟩
      have hm0 : 0 ≤ a * b := Int.mul_nonneg ha0 hb0
      have hm1 : a * b ≤ 15 * 17 := Int.mul_le_mul ha1 hb1 hb0 (by omega)
      have hm2 : a * b ≤ 255 := by omega
      clear hm1
      have hown3 := hown2.kept (only_trans hg3 hg4) (own_ne hown2 hgw)
      have hs3 := Nat.le_trans hB (Nat.le_trans hg3.size hg4.size)
      go_wp2_with (at_builtin; refine wpList_append_own _ rfl _ _ 22 rfl w.heap.size 5 i0 (.int .u8 0) 1 1 Try.underlying22 hi hz0 hz1 hz2 rfl (by decide) _ _ _ rfl (hown3.alloc _) ⟨w3.heap.size, 0, none⟩ 1 1 [.int .u8 (a * b)] rfl rfl ?c1 ?c2 ?c3 ?c4 ?c5 ?_)
      case c1 => exact World.news_of_block (cs := #[.int .u8 (a * b)]) (t := 5) (fr := (0, 0)) (heap_alloc_new w3 _)
      case c2 => simp [Value.oneCell']
      case c3 => unfold maxLen; omega
      case c4 => omega
      case c5 => simp; omega
      intro v' w4 hown4 hgr4 _
      have hal : Below w.heap.size w3 (w3.alloc (.cells #[.int .u8 (a * b)] 5)) := (Below.refl _ _).alloc hs3 _
      have hb4 := hal.trans (below_row (hown3.alloc _) hgr4 (by simp; omega))
      have hR5 := hR4.below hb4 hgw
      have hg5 := only_then_below (only_trans hg2 (only_trans hg3 hg4)) hb4
      have HO := Lib.hid hown4
      clear hal hb4 hgr4 hown4 hown3 hown2 hown
      go_wp2
      go_roundw
      case rel => exact ⟨j + 1, xs ++ [a * b], by omega, by go_num, by simpa using HO.out, hR5.mono (by omega), hg5, hg5.size⟩
      case measure => simp [intOf]; omega
    · have hje : j = m := by omega
      subst hje
      have hcv := conv_own (P := Try.prog) _ 22 5 9 Try.underlying22 Try.underlying5 Try.underlying9 _ _ _ xs hown2
      have hlen : xs.length = j := by simpa using hown2.1
      have HL := Lib.hid hlen
      clear hlen hown2 hown
      go_wp2
      go_ret
      exact ⟨_, rfl, by rw [strOfNums_size, HL.out]; omega, hR2.mono (by omega), hg2⟩

/-- A text of bounded length, the world as it was. -/
def SomeStr (w : World) (hi : Nat) (e : Ending) (w' : World) : Prop := ∃ s : ByteArray, e = .returned (.string s) ∧ s.size ≤ hi ∧ w = w'
def strSize : Value → Nat | .string s => s.size | _ => 0
def ManyRel (C : Nat) (s n out : Value) : Prop := ∃ (t u : ByteArray) (m : Nat), s = .string t ∧ n = .int .i64 m ∧ out = .string u ∧ u.size + t.size * m ≤ C ∧ t.size ≤ 2 * C + 10 ∧ m ≤ 1000
theorem many_step (x q r : Nat) : x * (2 * q + r) = (x + x) * q + x * r := by
  rw [Nat.mul_add, Nat.add_mul, ← Nat.mul_assoc, Nat.mul_comm x 2, Nat.mul_assoc]; omega
theorem many_grow (x y m C : Nat) (h : y + x * m ≤ C) (hm : 0 < m) : x ≤ C := by
  have : x * 1 ≤ x * m := Nat.mul_le_mul_left x hm
  omega
theorem many_half (x y m C : Nat) (h : y + x * m ≤ C) : y + x * (m % 2) + (x + x) * (m / 2) ≤ C := by
  have := many_step x (m / 2) (m % 2)
  have e : 2 * (m / 2) + m % 2 = m := by omega
  rw [e] at this
  omega
theorem c_l6Many (s : ByteArray) (n C : Nat) (w : World) (hC : s.size * n ≤ C) (hC2 : C ≤ 1000000) (hs : s.size ≤ 10) (hn : n ≤ 1000) :
    Calls Try.prog 65 #[.string s, .int .i64 n] w (SomeStr w C) := by
  go_enter Try.func65, Try.ntmps65
  go_wp2
  go_loop [0, 1, 5] (fun s n out => ManyRel C s n out) (fun _ n _ => (intOf n).toNat)
  case atStart => exact ⟨s, ⟨#[]⟩, n, rfl, rfl, rfl, by show 0 + _ ≤ _; omega, by omega, hn⟩
  case round =>
    obtain ⟨t, u, m, rfl, rfl, rfl, h1, h2, h3⟩ := hrel
    by_cases hm : 0 < m
    · have hg := many_grow _ _ _ _ h1 hm
      have hh := many_half _ _ _ _ h1
      have hu : u.size ≤ C := by omega
      have HH := Lib.hid hh
      clear hh h1
      by_cases hodd : m % 2 = 1
      · have hq : (((m : Int) % 2) == 1) = true := by simp; omega
        have Ho := Lib.hid hodd
        clear hodd
        go_wp2
        go_round
        case rel =>
          refine ⟨t ++ t, u ++ t, m / 2, rfl, by go_num, rfl, ?_, by simp [ByteArray.size_append]; omega, by omega⟩
          have := HH.out
          rw [Ho.out] at this
          simp only [ByteArray.size_append]
          omega
        case measure => simp [intOf]; omega
      · have hq : (((m : Int) % 2) == 1) = false := by simp; omega
        have hev : m % 2 = 0 := by omega
        have Ho := Lib.hid hev
        clear hodd hev
        go_wp2
        go_round
        case rel =>
          refine ⟨t ++ t, u, m / 2, rfl, by go_num, rfl, ?_, by simp [ByteArray.size_append]; omega, by omega⟩
          have := HH.out
          rw [Ho.out] at this
          simp only [ByteArray.size_append]
          omega
        case measure => simp [intOf]; omega
    · have hz : m = 0 := by omega
      subst hz
      have hu : u.size ≤ C := by omega
      go_wp2
      go_ret
      exact ⟨_, rfl, hu, rfl⟩

/-- A chunk is handed back, the reader may have moved on. -/
def RdChunk (w : World) (g k : Nat) (e : Ending) (w' : World) : Prop :=
  ∃ (a b : Int) (s : ByteArray), e = .returned (.agg #[.int .i64 a, .int .i64 b, .string s]) ∧ -1 ≤ a ∧ a ≤ 256 ∧ -1 ≤ b ∧ b ≤ 256 ∧ s.size ≤ 62 ∧ Rd w' g k ∧ w.grownBy w' (some g)
end Go.Proofs.Ytokjdnfohbabgaa
