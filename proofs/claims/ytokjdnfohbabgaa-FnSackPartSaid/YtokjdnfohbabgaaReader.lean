/-
  The reader of drawn codes: what it holds ('Rd'), and what opening it and picking a number give.
-/
import Derived.Test.YtokjdnfohbabgaaBase
import Derived.Deep.QuietTactic
import Derived.BigQuiet
import Derived.Laws.BitsAllLaws
import Derived.Laws.BitsLemmas
namespace Go.Proofs.Ytokjdnfohbabgaa
set_option linter.unusedVariables false
set_option linter.unusedSimpArgs false
open Go.RowKit

/-- Block g is a reader with at most k numbers picked, over at most 2000 bytes that lie below it. -/
def Rd (w : World) (g : Nat) (k : Nat) : Prop :=
  ∃ (p : Int) (a : Option Addr) (n c : Nat), 0 ≤ p ∧ p ≤ k ∧ w.heap[g]? = some (.cells #[.slice a n c, .int .i64 p] 75 (0, 0)) ∧ n ≤ 2000 ∧
    (0 < n → ∃ b off, a = some ⟨b, off, none⟩ ∧ b < g ∧ ∀ i : Nat, i < n → ∃ v : Int, 0 ≤ v ∧ v ≤ 255 ∧ w.cell? ⟨b, off + i, none⟩ = some (.int .u8 v))

theorem Rd.mono {w : World} {g k k' : Nat} (h : Rd w g k) (hk : k ≤ k') : Rd w g k' := by
  obtain ⟨p, a, n, c, h0, h1, r⟩ := h
  exact ⟨p, a, n, c, h0, by omega, r⟩
theorem Rd.lt {w : World} {g k : Nat} (h : Rd w g k) : g < w.heap.size := by
  obtain ⟨p, a, n, c, _, _, hh, _⟩ := h
  rcases Nat.lt_or_ge g w.heap.size with hlt | hge
  · exact hlt
  · rw [Array.getElem?_eq_none hge] at hh; cases hh
/-- Behind a call that lays only new blocks a reader is as it was. -/
theorem Rd.below {w w' : World} {g k B : Nat} (h : Rd w g k) (hb : Below B w w') (hB : g < B) : Rd w' g k := by
  obtain ⟨p, a, n, c, h0, h1, hh, hn, hr⟩ := h
  refine ⟨p, a, n, c, h0, h1, (hb.block g hB).trans hh, hn, fun hp => ?_⟩
  obtain ⟨b, off, e, hbg, hv⟩ := hr hp
  refine ⟨b, off, e, hbg, fun i hi => ?_⟩
  obtain ⟨v, h2, h3, h4⟩ := hv i hi
  exact ⟨v, h2, h3, (hb.cell (p := ⟨b, off + i, none⟩) (by show b < B; omega)).trans h4⟩
theorem Rd.alloc {w : World} {g k : Nat} (h : Rd w g k) (o : Obj) : Rd (w.alloc o) g k := h.below ((Below.refl w.heap.size w).alloc (Nat.le_refl _) o) h.lt
theorem Rd.drew {w : World} {g k : Nat} (h : Rd w g k) : Rd w.drew g k := h
theorem Rd.drewN {w : World} {g k : Nat} (h : Rd w g k) (n : Nat) : Rd (w.drewN n) g k := h
/-- A store into another, later block leaves it. -/
theorem Rd.setCell {w : World} {g k : Nat} (h : Rd w g k) {p : Addr} (hp : g < p.block) (u : Value) : Rd (w.setCell p u) g k :=
  h.below ((Below.refl p.block w).setCell (Nat.le_refl _) u) hp

/-- What is kept by a call that may turn block g and what is new. -/
theorem gcell {w w' : World} {g : Nat} (h : w.grownBy w' (some g)) : ∀ b o, b < w.heap.size → b ≠ g → w'.cell? ⟨b, o, none⟩ = w.cell? ⟨b, o, none⟩ :=
  fun b _ hb hne => World.cell?_of_block (h.block b hb (fun e => hne (by injection e)))
theorem gfroz {w w' : World} {g : Nat} (h : w.grownBy w' (some g)) : ∀ b o, b < w.heap.size → b ≠ g → w'.frozen? ⟨b, o, none⟩ = w.frozen? ⟨b, o, none⟩ :=
  fun b _ hb hne => World.frozen?_of_block (h.block b hb (fun e => hne (by injection e)))
theorem only_refl (w : World) (g : Nat) : w.grownBy w (some g) := ⟨rfl, rfl, rfl, Nat.le_refl _, fun _ _ _ => rfl⟩
theorem only_trans {a b c : World} {g : Nat} (h : a.grownBy b (some g)) (k : b.grownBy c (some g)) : a.grownBy c (some g) :=
  ⟨k.os.trans h.os, k.tape.trans h.tape, k.output.trans h.output, Nat.le_trans h.size k.size, fun i hi hne => (k.block i (Nat.lt_of_lt_of_le hi h.size) hne).trans (h.block i hi hne)⟩
theorem only_drewN {a w : World} {row : Option Nat} (h : a.grownBy w row) (n : Nat) : a.grownBy (w.drewN n) row := ⟨h.os, h.tape, h.output, h.size, h.block⟩
theorem only_drew {a w : World} {row : Option Nat} (h : a.grownBy w row) : a.grownBy w.drew row := ⟨h.os, h.tape, h.output, h.size, h.block⟩
theorem only_alloc {a w : World} {row : Option Nat} (h : a.grownBy w row) (o : Obj) : a.grownBy (w.alloc o) row :=
  ⟨h.os, h.tape, h.output, Nat.le_trans h.size (by simp), fun i hi hne => (Below.heap_alloc w o i (Nat.lt_of_lt_of_le hi h.size)).trans (h.block i hi hne)⟩
theorem only_setCell {a w : World} {g : Nat} (h : a.grownBy w (some g)) {p : Addr} (hp : p.block = g ∨ a.heap.size ≤ p.block) (u : Value) : a.grownBy (w.setCell p u) (some g) :=
  ⟨h.os, h.tape, h.output, by simpa [World.setCell] using h.size, fun i hi hne => (Below.heap_setCell w p u i (by
    rintro rfl
    rcases hp with hp | hp
    · exact hne (by rw [hp])
    · omega)).trans (h.block i hi hne)⟩
theorem only_below {a w w' : World} {g : Nat} (h : a.grownBy w (some g)) (hb : Below w.heap.size w w') : a.grownBy w' (some g) :=
  only_trans h ⟨hb.os, hb.tape, hb.output, hb.size, fun i hi _ => hb.block i hi⟩
/-- What turned is a block that did not stand when the call began. -/
theorem below_only {B : Nat} {a w w' : World} {g : Nat} (h : Below B a w) (hg : w.grownBy w' (some g)) (hB : B ≤ w.heap.size) (hB' : B ≤ g) : Below B a w' :=
  h.grown hg hB (fun k e => by injection e with e; omega)

/-- A number within bounds is handed back, the reader may have moved on. -/
def RdInt (w : World) (g k : Nat) (lo hi : Int) (e : Ending) (w' : World) : Prop :=
  ∃ v : Int, e = .returned (.int .i64 v) ∧ lo ≤ v ∧ v ≤ hi ∧ Rd w' g k ∧ w.grownBy w' (some g)
/-- A text of bounded length is handed back, the reader may have moved on. -/
def RdStr (w : World) (g k : Nat) (hi : Nat) (e : Ending) (w' : World) : Prop :=
  ∃ s : ByteArray, e = .returned (.string s) ∧ s.size ≤ hi ∧ Rd w' g k ∧ w.grownBy w' (some g)

theorem ofInt_i64 (a : Nat) (ha : a < 9223372036854775808) : (BitVec.ofInt 64 (a : Int)).toNat = a := by
  rw [BitVec.ofInt_natCast, BitVec.toNat_ofNat]; exact Nat.mod_eq_of_lt (by omega)
theorem i64_xor_nat (a b : Nat) (ha : a < 9223372036854775808) (hb : b < 9223372036854775808) : bits .xor .i64 (a : Int) (b : Int) = ((a ^^^ b : Nat) : Int) := by
  have hx : a ^^^ b < 2 ^ 63 := Nat.xor_lt_two_pow (by omega) (by omega)
  show IntKind.i64.wrap ((BitVec.ofInt 64 (a : Int) ^^^ BitVec.ofInt 64 (b : Int)).toNat : Int) = _
  rw [BitVec.toNat_xor, ofInt_i64 a ha, ofInt_i64 b hb, IntKind.wrap_i64]
  omega
theorem xor_range (x y n : Int) (hx : 0 ≤ x) (hx1 : x ≤ 1000000000) (hy : 0 ≤ y) (hy1 : y ≤ 1000000000) (hn : 1 ≤ n) : 0 ≤ (bits .xor .i64 x y).tmod n ∧ (bits .xor .i64 x y).tmod n ≤ n - 1 := by
  obtain ⟨a, rfl⟩ := Int.eq_ofNat_of_zero_le hx
  obtain ⟨b, rfl⟩ := Int.eq_ofNat_of_zero_le hy
  rw [i64_xor_nat a b (by omega) (by omega)]
  rw [Int.tmod_eq_emod_of_nonneg (by omega)]
  have h1 := Int.emod_nonneg ((a ^^^ b : Nat) : Int) (show n ≠ 0 by omega)
  have h2 := Int.emod_lt_of_pos ((a ^^^ b : Nat) : Int) (show 0 < n by omega)
  omega

/-- The reader behind a pick. -/
theorem rd_picked {w : World} {g m c : Nat} {a : Option Addr} {p : Int} {k : Nat} (hg : w.heap[g]? = some (.cells #[.slice a m c, .int .i64 p] 75 (0, 0))) (hp : 0 ≤ p) (hk : p ≤ k) (hm : m ≤ 2000)
    (hr : 0 < m → ∃ b off, a = some ⟨b, off, none⟩ ∧ b < g ∧ ∀ i : Nat, i < m → ∃ v : Int, 0 ≤ v ∧ v ≤ 255 ∧ w.cell? ⟨b, off + i, none⟩ = some (.int .u8 v)) :
    Rd (w.setCell ⟨g, 1, none⟩ (.int .i64 (p + 1))) g (k + 1) ∧ w.grownBy (w.setCell ⟨g, 1, none⟩ (.int .i64 (p + 1))) (some g) := by
  refine ⟨⟨p + 1, a, m, c, by omega, by omega, ?_, hm, fun h0 => ?_⟩, only_setCell (only_refl w g) (.inl rfl) _⟩
  · simp [World.setCell, Array.getElem?_modify, hg]
  · obtain ⟨b, off, e, hb, hv⟩ := hr h0
    refine ⟨b, off, e, hb, fun i hi => ?_⟩
    obtain ⟨v, h1, h2, h3⟩ := hv i hi
    refine ⟨v, h1, h2, ?_⟩
    rw [World.cell?_setCell_other w _ _ _ (by intro e; injection e with e1; omega)]
    exact h3

theorem pk_empty (g c : Nat) (a : Option Addr) (p n : Int) (w : World) (hg : w.heap[g]? = some (.cells #[.slice a 0 c, .int .i64 p] 75 (0, 0))) (hp : 0 ≤ p) (hp1 : p ≤ 1000000) (hn : 1 ≤ n) :
    Calls Try.prog 52 #[.pointer (some ⟨g, 0, none⟩), .int .i64 n] w fun e w' => e = .returned (.int .i64 0) ∧ w.setCell ⟨g, 1, none⟩ (.int .i64 (p + 1)) = w' := by
  have h0 : w.cell? ⟨g, 0, none⟩ = some (.slice a 0 c) := cell_of_row w g 0 _ _ _ hg
  have h1 : w.cell? ⟨g, 1, none⟩ = some (.int .i64 p) := cell_of_row w g 1 _ _ _ hg
  have hf : w.frozen? ⟨g, 1, none⟩ = false := by simp [World.frozen?, hg]
  clear hg
  go_enter Try.func52, Try.ntmps52
  go_wp2
  go_ret
  exact ⟨rfl, rfl⟩

theorem pk_in (g m c : Nat) (b off : Nat) (p n v : Int) (w : World) (hg : w.heap[g]? = some (.cells #[.slice (some ⟨b, off, none⟩) m c, .int .i64 p] 75 (0, 0))) (hp : 0 ≤ p) (hpm : p < m) (hp1 : p ≤ 1000000) (hn : 1 ≤ n)
    (hb : b ≠ g) (hc : w.cell? ⟨b, off + p.toNat, none⟩ = some (.int .u8 v)) (hv : 0 ≤ v) (hv1 : v ≤ 255) :
    Calls Try.prog 52 #[.pointer (some ⟨g, 0, none⟩), .int .i64 n] w fun e w' => e = .returned (.int .i64 (v % n)) ∧ w.setCell ⟨g, 1, none⟩ (.int .i64 (p + 1)) = w' := by
  have h0 : w.cell? ⟨g, 0, none⟩ = some (.slice (some ⟨b, off, none⟩) m c) := cell_of_row w g 0 _ _ _ hg
  have h1 : w.cell? ⟨g, 1, none⟩ = some (.int .i64 p) := cell_of_row w g 1 _ _ _ hg
  have hf : w.frozen? ⟨g, 1, none⟩ = false := by simp [World.frozen?, hg]
  clear hg
  have hm0 : ((m : Int) == 0) = false := by simp; omega
  go_enter Try.func52, Try.ntmps52
  go_wp2
  go_ret
  exact ⟨rfl, rfl⟩

/-- What a pick beyond the code's end comes to. -/
def PickOut (w : World) (g : Nat) (p n : Int) (e : Ending) (w' : World) : Prop :=
  ∃ v nd, e = .returned (.int .i64 v) ∧ (0 ≤ v ∧ v ≤ n - 1) ∧ (w.setCell ⟨g, 1, none⟩ (.int .i64 (p + 1))).drewN nd = w'

theorem pk_out (g m c : Nat) (b off : Nat) (p n v1 v2 : Int) (w : World) (hg : w.heap[g]? = some (.cells #[.slice (some ⟨b, off, none⟩) m c, .int .i64 p] 75 (0, 0))) (hp : 0 ≤ p) (hpm : ¬ p < m) (hp1 : p ≤ 1000000) (hn : 1 ≤ n)
    (hm1 : 0 < m) (hb : b ≠ g) (hc : w.cell? ⟨b, off + (p % m).toNat, none⟩ = some (.int .u8 v1)) (hv : 0 ≤ v1) (hv1 : v1 ≤ 255)
    (hc2 : w.cell? ⟨b, off + ((p * 7 + 3) % m).toNat, none⟩ = some (.int .u8 v2)) (hv2 : 0 ≤ v2) (hv3 : v2 ≤ 255) :
    Calls Try.prog 52 #[.pointer (some ⟨g, 0, none⟩), .int .i64 n] w (PickOut w g p n) := by
  have h0 : w.cell? ⟨g, 0, none⟩ = some (.slice (some ⟨b, off, none⟩) m c) := cell_of_row w g 0 _ _ _ hg
  have h1 : w.cell? ⟨g, 1, none⟩ = some (.int .i64 p) := cell_of_row w g 1 _ _ _ hg
  have hf : w.frozen? ⟨g, 1, none⟩ = false := by simp [World.frozen?, hg]
  clear hg
  have hm0 : ((m : Int) == 0) = false := by simp; omega
  have hmp : (0 : Int) < (m : Int) := by omega
  have q1 : 0 ≤ p % (m : Int) := Int.emod_nonneg _ (by omega)
  have q2 : p % (m : Int) < (m : Int) := Int.emod_lt_of_pos _ hmp
  have q3 : 0 ≤ (p * 7 + 3) % (m : Int) := Int.emod_nonneg _ (by omega)
  have q4 : (p * 7 + 3) % (m : Int) < (m : Int) := Int.emod_lt_of_pos _ hmp
  have q5 : 0 ≤ p / (m : Int) := Int.ediv_nonneg hp (by omega)
  have q6 : p / (m : Int) ≤ p := Int.ediv_le_self _ hp
  have q7 : p / (m : Int) ≤ 1000000 := by omega
  clear q6
  go_enter Try.func52, Try.ntmps52
  go_wp2_with fail
  go_quiet (fail)
  go_wp2
  go_ret
  exact ⟨_, _, rfl, xor_range _ _ n (by omega) (by omega) (by omega) (by omega) hn, rfl⟩

theorem c_pick (g k : Nat) (n : Int) (w : World) (hR : Rd w g k) (hk : k ≤ 100000) (hn : 1 ≤ n) :
    Calls Try.prog 52 #[.pointer (some ⟨g, 0, none⟩), .int .i64 n] w (RdInt w g (k + 1) 0 (n - 1)) := by
  obtain ⟨p, a, m, c, hp, hpk, hg, hm, hr⟩ := hR
  have hpick := rd_picked hg hp hpk hm hr
  rcases Nat.eq_zero_or_pos m with hz | hz
  · subst hz
    refine (pk_empty g c a p n w hg hp (by omega) hn).mono ?_
    rintro e w' ⟨rfl, rfl⟩
    exact ⟨0, rfl, by omega, by omega, hpick.1, hpick.2⟩
  · obtain ⟨b, off, rfl, hb, hv⟩ := hr hz
    by_cases hlt : p < m
    · obtain ⟨v, h1, h2, h3⟩ := hv p.toNat (by omega)
      refine (pk_in g m c b off p n v w hg hp hlt (by omega) hn (by omega) h3 h1 h2).mono ?_
      rintro e w' ⟨rfl, rfl⟩
      have e1 := Int.emod_nonneg v (show n ≠ 0 by omega)
      have e2 := Int.emod_lt_of_pos v (show 0 < n by omega)
      exact ⟨_, rfl, e1, by omega, hpick.1, hpick.2⟩
    · have q1 : 0 ≤ p % (m : Int) := Int.emod_nonneg _ (by omega)
      have q2 : p % (m : Int) < (m : Int) := Int.emod_lt_of_pos _ (by omega)
      have q3 : 0 ≤ (p * 7 + 3) % (m : Int) := Int.emod_nonneg _ (by omega)
      have q4 : (p * 7 + 3) % (m : Int) < (m : Int) := Int.emod_lt_of_pos _ (by omega)
      obtain ⟨v1, h1, h2, h3⟩ := hv (p % (m : Int)).toNat (by omega)
      obtain ⟨v2, h4, h5, h6⟩ := hv ((p * 7 + 3) % (m : Int)).toNat (by omega)
      refine (pk_out g m c b off p n v1 v2 w hg hp hlt (by omega) hn hz (by omega) h3 h1 h2 h6 h4 h5).mono ?_
      rintro e w' ⟨v, nd, rfl, ⟨e1, e2⟩, rfl⟩
      exact ⟨_, rfl, e1, e2, hpick.1.drewN nd, only_drewN hpick.2 nd⟩
end Go.Proofs.Ytokjdnfohbabgaa
