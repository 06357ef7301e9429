/-
  Chunks of a packet: how they lie in memory; when a packet is valid, what the program and the reference say of that.
-/
import Derived.Test.YtfkajcljcbdjiaaStep
import Derived.Test.YtfkajcljcbdjiaaWords
import Derived.LoopTactic
import Derived.Deep.RegionHeld3
namespace Go.Proofs.Ytfkajcljcbdjiaa
set_option linter.unusedVariables false
set_option linter.unusedSimpArgs false
open Go.RowKit

def ch0 : Int × Int × ByteArray := (0, 0, ⟨#[]⟩)
/-- A slice reads as the chunks xs, all of it below B. -/
def Gaps (w : World) (B : Nat) (A : Option Addr) (n : Nat) (xs : List (Int × Int × ByteArray)) : Prop :=
  xs.length = n ∧ (0 < n → ∃ b o, A = some ⟨b, o, none⟩ ∧ b < B ∧ ∀ i, i < n → w.cell? ⟨b, o + i * 3, none⟩ = some (.int .i64 (xs.getD i ch0).1) ∧ w.cell? ⟨b, o + i * 3 + 1, none⟩ = some (.int .i64 (xs.getD i ch0).2.1) ∧ w.cell? ⟨b, o + i * 3 + 2, none⟩ = some (.string (xs.getD i ch0).2.2))
section
variable {w w' : World} {B B' : Nat} {A : Option Addr} {n : Nat} {xs : List (Int × Int × ByteArray)}
theorem Gaps.below (h : Gaps w B A n xs) (hb : Below B' w w') (hB : B ≤ B') : Gaps w' B A n xs :=
  ⟨h.1, fun hn => by
    obtain ⟨b, o, e, hlt, hc⟩ := h.2 hn
    refine ⟨b, o, e, hlt, fun i hi => ?_⟩
    obtain ⟨h1, h2, h3⟩ := hc i hi
    exact ⟨(hb.cell (p := ⟨b, o + i * 3, none⟩) (Nat.lt_of_lt_of_le hlt hB)).trans h1, (hb.cell (p := ⟨b, o + i * 3 + 1, none⟩) (Nat.lt_of_lt_of_le hlt hB)).trans h2, (hb.cell (p := ⟨b, o + i * 3 + 2, none⟩) (Nat.lt_of_lt_of_le hlt hB)).trans h3⟩⟩
theorem Gaps.more (h : Gaps w B A n xs) (hB : B ≤ B') : Gaps w B' A n xs :=
  ⟨h.1, fun hn => by
    obtain ⟨b, o, e, hlt, hc⟩ := h.2 hn
    exact ⟨b, o, e, Nat.lt_of_lt_of_le hlt hB, hc⟩⟩
theorem Gaps.alloc (h : Gaps w B A n xs) (hB : B ≤ w.heap.size) (o : Obj) : Gaps (w.alloc o) B A n xs := h.below ((Below.refl B w).alloc hB o) (Nat.le_refl _)
theorem Gaps.drew (h : Gaps w B A n xs) : Gaps w.drew B A n xs := h
theorem Gaps.drewN (h : Gaps w B A n xs) (k : Nat) : Gaps (w.drewN k) B A n xs := h
theorem Gaps.setCell (h : Gaps w B A n xs) {p : Addr} (hp : B ≤ p.block) (u : Value) : Gaps (w.setCell p u) B A n xs := h.below ((Below.refl B w).setCell hp u) (Nat.le_refl _)
end

/-- A chunk is valid. -/
def chOk (x : Int × Int × ByteArray) : Bool := chunkOk x.1 x.2.1 x.2.2
def chsOk : List (Int × Int × ByteArray) → Bool
  | [] => true
  | x :: r => chOk x && chsOk r
/-- Ports, tag and number of chunks are valid. -/
def pkHd (f t g : Int) (n : Nat) : Bool := decide (1 ≤ f ∧ f ≤ 65535 ∧ 1 ≤ t ∧ t ≤ 65535 ∧ f ≠ t ∧ 0 ≤ g ∧ g ≤ 4294967295 ∧ 1 ≤ n ∧ n ≤ 4)
def pkOkV (f t g : Int) (xs : List (Int × Int × ByteArray)) : Bool := pkHd f t g xs.length && chsOk xs
theorem drop_get (xs : List (Int × Int × ByteArray)) (j : Nat) (h : j < xs.length) : xs.drop j = xs.getD j ch0 :: xs.drop (j + 1) := by
  rw [List.drop_eq_getElem_cons h, List.getD_eq_getElem?_getD, List.getElem?_eq_getElem h]; rfl
theorem chsOk_step {xs : List (Int × Int × ByteArray)} {j : Nat} (h : j < xs.length) : chsOk (xs.drop j) = (chOk (xs.getD j ch0) && chsOk (xs.drop (j + 1))) := by
  rw [drop_get xs j h]; rfl
theorem pkHd_yes {f t g : Int} {n : Nat} (h : pkHd f t g n = true) : 1 ≤ f ∧ f ≤ 65535 ∧ 1 ≤ t ∧ t ≤ 65535 ∧ f ≠ t ∧ 0 ≤ g ∧ g ≤ 4294967295 ∧ 1 ≤ n ∧ n ≤ 4 := by unfold pkHd at h; exact of_decide_eq_true h
theorem pkHd_no {f t g : Int} {n : Nat} (h : pkHd f t g n = false) : ¬ (1 ≤ f ∧ f ≤ 65535 ∧ 1 ≤ t ∧ t ≤ 65535 ∧ f ≠ t ∧ 0 ≤ g ∧ g ≤ 4294967295 ∧ 1 ≤ n ∧ n ≤ 4) := by unfold pkHd at h; exact of_decide_eq_false h

set_option maxHeartbeats 4000000 in
theorem c_PacketValid (f t g : Int) (A : Option Addr) (n c : Nat) (xs : List (Int × Int × ByteArray)) (B : Nat) (w : World) (hG : Gaps w B A n xs) (hBw : B ≤ w.heap.size) (hn : n ≤ maxLen) (hsz : ∀ i, i < n → (xs.getD i ch0).2.2.size ≤ maxLen) :
    Calls Try.prog 22 #[.agg #[.int .i64 f, .int .i64 t, .int .i64 g, .slice A n c]] w fun e w' => e = .returned (.bool (pkOkV f t g xs)) ∧ Below w.heap.size w w' := by
  unfold maxLen at hn
  have B0 := Lib.hid (Below.refl w.heap.size w)
  have hl := hG.1
  cases hh : pkHd f t g n with
  | false =>
    have hv : pkOkV f t g xs = false := by unfold pkOkV; rw [hl, hh]; rfl
    have hno := pkHd_no hh
    rw [hv]
    clear hv hl hsz hG hh
    by_cases h1 : f < 1
    · clear hno; go_enter Try.func22, Try.ntmps22; go_wp2; go_ret; exact ⟨rfl, by (repeat' (first | with_reducible exact B0.out | with_reducible exact Below.refl _ _ | with_reducible refine below_drew1 ?_ | with_reducible refine below_drewN ?_ _ | with_reducible refine Below.alloc ?_ ?_ _ | with_reducible refine Below.setCell ?_ ?_ _ | omega | (simp; done) | (simp; omega)))⟩
    by_cases h2 : 65535 < f
    · clear hno; go_enter Try.func22, Try.ntmps22; go_wp2; go_ret; exact ⟨rfl, by (repeat' (first | with_reducible exact B0.out | with_reducible exact Below.refl _ _ | with_reducible refine below_drew1 ?_ | with_reducible refine below_drewN ?_ _ | with_reducible refine Below.alloc ?_ ?_ _ | with_reducible refine Below.setCell ?_ ?_ _ | omega | (simp; done) | (simp; omega)))⟩
    by_cases h3 : t < 1
    · clear hno; go_enter Try.func22, Try.ntmps22; go_wp2; go_ret; exact ⟨rfl, by (repeat' (first | with_reducible exact B0.out | with_reducible exact Below.refl _ _ | with_reducible refine below_drew1 ?_ | with_reducible refine below_drewN ?_ _ | with_reducible refine Below.alloc ?_ ?_ _ | with_reducible refine Below.setCell ?_ ?_ _ | omega | (simp; done) | (simp; omega)))⟩
    by_cases h4 : 65535 < t
    · clear hno; go_enter Try.func22, Try.ntmps22; go_wp2; go_ret; exact ⟨rfl, by (repeat' (first | with_reducible exact B0.out | with_reducible exact Below.refl _ _ | with_reducible refine below_drew1 ?_ | with_reducible refine below_drewN ?_ _ | with_reducible refine Below.alloc ?_ ?_ _ | with_reducible refine Below.setCell ?_ ?_ _ | omega | (simp; done) | (simp; omega)))⟩
    by_cases h5 : f = t
    · have h5b : (f == t) = true := by simp [h5]
      clear hno; go_enter Try.func22, Try.ntmps22; go_wp2; go_ret; exact ⟨rfl, by (repeat' (first | with_reducible exact B0.out | with_reducible exact Below.refl _ _ | with_reducible refine below_drew1 ?_ | with_reducible refine below_drewN ?_ _ | with_reducible refine Below.alloc ?_ ?_ _ | with_reducible refine Below.setCell ?_ ?_ _ | omega | (simp; done) | (simp; omega)))⟩
    have h5b : (f == t) = false := by simp [h5]
    by_cases h6 : g < 0
    · clear hno; go_enter Try.func22, Try.ntmps22; go_wp2; go_ret; exact ⟨rfl, by (repeat' (first | with_reducible exact B0.out | with_reducible exact Below.refl _ _ | with_reducible refine below_drew1 ?_ | with_reducible refine below_drewN ?_ _ | with_reducible refine Below.alloc ?_ ?_ _ | with_reducible refine Below.setCell ?_ ?_ _ | omega | (simp; done) | (simp; omega)))⟩
    by_cases h7 : 4294967295 < g
    · clear hno; go_enter Try.func22, Try.ntmps22; go_wp2; go_ret; exact ⟨rfl, by (repeat' (first | with_reducible exact B0.out | with_reducible exact Below.refl _ _ | with_reducible refine below_drew1 ?_ | with_reducible refine below_drewN ?_ _ | with_reducible refine Below.alloc ?_ ?_ _ | with_reducible refine Below.setCell ?_ ?_ _ | omega | (simp; done) | (simp; omega)))⟩
    by_cases h8 : (n : Int) < 1
    · clear hno; go_enter Try.func22, Try.ntmps22; go_wp2; go_ret; exact ⟨rfl, by (repeat' (first | with_reducible exact B0.out | with_reducible exact Below.refl _ _ | with_reducible refine below_drew1 ?_ | with_reducible refine below_drewN ?_ _ | with_reducible refine Below.alloc ?_ ?_ _ | with_reducible refine Below.setCell ?_ ?_ _ | omega | (simp; done) | (simp; omega)))⟩
    have h9 : (4 : Int) < (n : Int) := by omega
    clear hno; go_enter Try.func22, Try.ntmps22; go_wp2; go_ret; exact ⟨rfl, by (repeat' (first | with_reducible exact B0.out | with_reducible exact Below.refl _ _ | with_reducible refine below_drew1 ?_ | with_reducible refine below_drewN ?_ _ | with_reducible refine Below.alloc ?_ ?_ _ | with_reducible refine Below.setCell ?_ ?_ _ | omega | (simp; done) | (simp; omega)))⟩
  | true =>
    obtain ⟨h1, h2, h3, h4, h5, h6, h7, h8, h9⟩ := pkHd_yes hh
    have hv : pkOkV f t g xs = chsOk (xs.drop 0) := by unfold pkOkV; rw [hl, hh]; rfl
    have h5b : (f == t) = false := by simp [h5]
    have h8i : (1 : Int) ≤ (n : Int) := by omega
    have h9i : (n : Int) ≤ 4 := by omega
    rw [hv]
    have HL := Lib.hid hl
    have HS := Lib.hid hsz
    clear hv hl hh hsz
    go_enter Try.func22, Try.ntmps22
    go_wp2
    go_loopw [4, 55] (fun _ i wr => ∃ j : Nat, j ≤ n ∧ i = .int .i64 j ∧ chsOk (xs.drop 0) = chsOk (xs.drop j) ∧ Below w.heap.size w wr) (fun _ i _ => n - (intOf i).toNat)
    case atStart => exact ⟨0, Nat.zero_le _, rfl, rfl, by (repeat' (first | with_reducible exact B0.out | with_reducible exact Below.refl _ _ | with_reducible refine below_drew1 ?_ | with_reducible refine below_drewN ?_ _ | with_reducible refine Below.alloc ?_ ?_ _ | with_reducible refine Below.setCell ?_ ?_ _ | omega | (simp; done) | (simp; omega)))⟩
    case round =>
      obtain ⟨j, hj, rfl, hok, hB⟩ := hrel
      have B1 := Lib.hid hB
      have OK := Lib.hid hok
      have hz := hB.size
      clear hB hok
      by_cases hlt : j < n
      · obtain ⟨b, o, rfl, hb, hc⟩ := hG.2 (by omega)
        obtain ⟨c0, c1, c2⟩ := hc j hlt
        have hs := HS.out j hlt
        have hb := Nat.lt_of_lt_of_le hb hBw
        have d0 := (B1.out.cell (p := ⟨b, o + j * 3, none⟩) hb).trans c0
        have d1 := (B1.out.cell (p := ⟨b, o + j * 3 + 1, none⟩) hb).trans c1
        have d2 := (B1.out.cell (p := ⟨b, o + j * 3 + 2, none⟩) hb).trans c2
        have hst := Lib.hid (chsOk_step (xs := xs) (j := j) (by rw [HL.out]; exact hlt))
        generalize hgx : xs.getD j ch0 = y at *
        obtain ⟨a, e, s⟩ := y
        clear hgx hc c0 c1 c2 hG hBw
        simp only at d0 d1 d2 hs
        have hjn : (j : Int) < (n : Int) := by omega
        have cv := fun W => c_ChunkValid a e s W hs
        cases hck : chunkOk a e s with
        | false =>
          have hr := Lib.hid (show chsOk (xs.drop 0) = false by rw [OK.out, hst.out]; unfold chOk; simp [hck])
          rw [hck] at cv
          have CV := Lib.hid cv
          clear cv hs
          go_wp2_with fail
          refine (CV.out _).mono ?_
          rintro e w2 ⟨rfl, h2⟩
          go_wp2
          go_ret
          exact ⟨ret_bool hr.out.symm, below_step (B := w.heap.size) (w0 := w) (by (repeat' (first | with_reducible exact B1.out | with_reducible exact Below.refl _ _ | with_reducible refine below_drew1 ?_ | with_reducible refine below_drewN ?_ _ | with_reducible refine Below.alloc ?_ ?_ _ | with_reducible refine Below.setCell ?_ ?_ _ | omega | (simp; done) | (simp; omega)))) (by first | omega | (simp; done) | (simp; omega)) h2⟩
        | true =>
          have hr := Lib.hid (show chsOk (xs.drop 0) = chsOk (xs.drop (j + 1)) by rw [OK.out, hst.out]; unfold chOk; simp [hck])
          rw [hck] at cv
          have CV := Lib.hid cv
          clear cv hs
          go_wp2_with fail
          refine (CV.out _).mono ?_
          rintro e w2 ⟨rfl, h2⟩
          have B2 := Lib.hid (below_step (B := w.heap.size) (w0 := w) (by (repeat' (first | with_reducible exact B1.out | with_reducible exact Below.refl _ _ | with_reducible refine below_drew1 ?_ | with_reducible refine below_drewN ?_ _ | with_reducible refine Below.alloc ?_ ?_ _ | with_reducible refine Below.setCell ?_ ?_ _ | omega | (simp; done) | (simp; omega)))) (by first | omega | (simp; done) | (simp; omega)) h2)
          clear h2
          go_wp2
          go_roundw
          case rel => exact ⟨j + 1, by omega, by go_num, hr.out, B2.out⟩
          case measure => simp [intOf]; omega
      · have hje : j = n := by omega
        subst hje
        have hr := Lib.hid (show chsOk (xs.drop 0) = true by rw [OK.out, List.drop_eq_nil_of_le (Nat.le_of_eq HL.out)]; rfl)
        go_wp2
        go_ret
        exact ⟨ret_bool hr.out.symm, B1.out⟩
end Go.Proofs.Ytfkajcljcbdjiaa
