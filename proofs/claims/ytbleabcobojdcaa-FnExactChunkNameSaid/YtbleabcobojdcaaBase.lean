/-
  Plain words and small lemmas for the walks of this seat: bytes of numbers, what the conversions give, what a world keeps.
-/
import Derived.Test.YtbleabcobojdcaaChecked
import Derived.WalkKit
import Derived.WalkLawsBesides
import Derived.WalkSpells
import Derived.Laws.IdiomStrings
import Derived.Laws.BytesArg
import Derived.Lib.Hide
namespace Go.Proofs.Ytbleabcobojdcaa
open Go.RowKit

theorem ret_bool {a b : Bool} (h : a = b) : Ending.returned (.bool a) = .returned (.bool b) := by rw [h]
theorem ret_int {k : IntKind} {a b : Int} (h : a = b) : Ending.returned (.int k a) = .returned (.int k b) := by rw [h]
theorem ret_string {a b : ByteArray} (h : a = b) : Ending.returned (.string a) = .returned (.string b) := by rw [h]

theorem bcell {W w1 : World} (hb : Below W.heap.size W w1) : (∀ b o, b < W.heap.size → w1.cell? ⟨b, o, none⟩ = W.cell? ⟨b, o, none⟩) ∧ (∀ b o, b < W.heap.size → w1.frozen? ⟨b, o, none⟩ = W.frozen? ⟨b, o, none⟩) :=
  ⟨fun b o h => hb.cell (p := ⟨b, o, none⟩) h, fun b o h => hb.frozen (p := ⟨b, o, none⟩) h⟩

/-- A callee that lays only new blocks, after which the caller's world is as it was below its own start. -/
theorem below_step {B : Nat} {w0 w w' : World} (h : Below B w0 w) (hB : B ≤ w.heap.size) (k : Below w.heap.size w w') : Below B w0 w' := h.trans (k.mono hB)

/-- Two bytes, as a text. -/
def by2 (a b : Int) : ByteArray := ⟨[UInt8.ofNat a.toNat, UInt8.ofNat b.toNat].toArray⟩
/-- Four bytes, as a text. -/
def by4 (a b c d : Int) : ByteArray := ⟨[UInt8.ofNat a.toNat, UInt8.ofNat b.toNat, UInt8.ofNat c.toNat, UInt8.ofNat d.toNat].toArray⟩
/-- One byte, as a text. -/
def by1 (a : Int) : ByteArray := ⟨[UInt8.ofNat a.toNat].toArray⟩
theorem by1_size (a : Int) : (by1 a).size = 1 := rfl
theorem by2_size (a b : Int) : (by2 a b).size = 2 := rfl
theorem by4_size (a b c d : Int) : (by4 a b c d).size = 4 := rfl
theorem by4_eq (a b c d : Int) : by2 a b ++ by2 c d = by4 a b c d := rfl

section
variable {P : Program}
theorem conv_new (w : World) (src e dst : TypeId) (hs : P.underlying src = some (.slice e)) (he : P.underlying e = some (.int .u8)) (hd : P.underlying dst = some .string) (xs : List Int) (cap : Nat) :
    (convert src dst (.slice (some ⟨w.heap.size, 0, none⟩) xs.length cap)).run P (w.alloc (.cells (xs.map (Value.int .u8)).toArray e)) = .ok (.string (strOfNums xs)) (w.alloc (.cells (xs.map (Value.int .u8)).toArray e)) :=
  run_convert_bytes_arg (P := P) _ src e hs he w.heap.size 0 xs.length cap xs rfl (fun i hi => by
    rw [World.cell?_alloc_mark w _ e (0, 0) (0 + i)]
    simp [List.getElem?_eq_getElem hi, List.getD]) dst hd
theorem conv2 (w : World) (src e dst : TypeId) (hs : P.underlying src = some (.slice e)) (he : P.underlying e = some (.int .u8)) (hd : P.underlying dst = some .string) (a b : Int) :
    (convert src dst (.slice (some ⟨w.heap.size, 0, none⟩) 2 2)).run P (w.alloc (.cells #[.int .u8 a, .int .u8 b] e)) = .ok (.string (by2 a b)) (w.alloc (.cells #[.int .u8 a, .int .u8 b] e)) := by
  have h := conv_new (P := P) w src e dst hs he hd [a, b] 2
  simpa [strOfNums, by2] using h
theorem conv2d (w : World) (src e dst : TypeId) (hs : P.underlying src = some (.slice e)) (he : P.underlying e = some (.int .u8)) (hd : P.underlying dst = some .string) (a b : Int) :
    (convert src dst (.slice (some ⟨w.heap.size, 0, none⟩) 2 2)).run P (w.alloc (.cells #[.int .u8 a, .int .u8 b] e)).drew = .ok (.string (by2 a b)) (w.alloc (.cells #[.int .u8 a, .int .u8 b] e)).drew :=
  conv2 (P := P) w.drew src e dst hs he hd a b
theorem conv4 (w : World) (src e dst : TypeId) (hs : P.underlying src = some (.slice e)) (he : P.underlying e = some (.int .u8)) (hd : P.underlying dst = some .string) (a b c d : Int) :
    (convert src dst (.slice (some ⟨w.heap.size, 0, none⟩) 4 4)).run P (w.alloc (.cells #[.int .u8 a, .int .u8 b, .int .u8 c, .int .u8 d] e)) = .ok (.string (by4 a b c d)) (w.alloc (.cells #[.int .u8 a, .int .u8 b, .int .u8 c, .int .u8 d] e)) := by
  have h := conv_new (P := P) w src e dst hs he hd [a, b, c, d] 4
  simpa [strOfNums, by4] using h
theorem conv1 (w : World) (src e dst : TypeId) (hs : P.underlying src = some (.slice e)) (he : P.underlying e = some (.int .u8)) (hd : P.underlying dst = some .string) (a : Int) :
    (convert src dst (.slice (some ⟨w.heap.size, 0, none⟩) 1 1)).run P (w.alloc (.cells #[.int .u8 a] e)) = .ok (.string (by1 a)) (w.alloc (.cells #[.int .u8 a] e)) := by
  have h := conv_new (P := P) w src e dst hs he hd [a] 1
  simpa [strOfNums, by1] using h
end

/-- Is a number within two bounds? -/
def inB (n a b : Int) : Bool := decide (a ≤ n ∧ n ≤ b)
/-- A valid chunk. -/
def chunkOk (k f : Int) (s : ByteArray) : Bool := decide (0 ≤ k ∧ k ≤ 255 ∧ 0 ≤ f ∧ f ≤ 255 ∧ s.size ≤ 60)
/-- The two bytes of a number. -/
def w2 (n : Int) : ByteArray := by2 (n / 256) (n % 256)
theorem w2_size (n : Int) : (w2 n).size = 2 := rfl
/-- The four bytes of a number. -/
def w4 (n : Int) : ByteArray := w2 (n / 65536) ++ w2 (n % 65536)
theorem w4_size (n : Int) : (w4 n).size = 4 := rfl
/-- n zeros. -/
def zeros (n : Nat) : ByteArray := ⟨(List.replicate n 0).toArray⟩
theorem zeros_size (n : Nat) : (zeros n).size = n := by show (List.replicate n (0 : UInt8)).toArray.size = n; simp
/-- How many zeros fill up to a multiple of four. -/
def padN (n : Nat) : Nat := (4 - n % 4) % 4
/-- The bytes of a chunk. -/
def cput (k f : Int) (s : ByteArray) : ByteArray := by2 k f ++ w2 (4 + s.size) ++ s ++ zeros (padN s.size)
end Go.Proofs.Ytbleabcobojdcaa
