/-
  Plain words and small lemmas for the walks of this seat: bytes of numbers, what the conversions give, what a world keeps.
-/
import Derived.Test.YtokjdnfohbabgaaChecked
import Derived.WalkKit
import Derived.WalkLawsBesides
import Derived.WalkSpells
import Derived.Laws.IdiomStrings
import Derived.Laws.BytesArg
import Derived.Lib.Hide
namespace Go.Proofs.Ytokjdnfohbabgaa
set_option linter.unusedVariables false
set_option linter.unusedSimpArgs false
open Go.RowKit

theorem ret_bool {a b : Bool} (h : a = b) : Ending.returned (.bool a) = .returned (.bool b) := by rw [h]
theorem ret_int {k : IntKind} {a b : Int} (h : a = b) : Ending.returned (.int k a) = .returned (.int k b) := by rw [h]
theorem ret_string {a b : ByteArray} (h : a = b) : Ending.returned (.string a) = .returned (.string b) := by rw [h]

theorem bcell {W w1 : World} (hb : Below W.heap.size W w1) : (∀ b o, b < W.heap.size → w1.cell? ⟨b, o, none⟩ = W.cell? ⟨b, o, none⟩) ∧ (∀ b o, b < W.heap.size → w1.frozen? ⟨b, o, none⟩ = W.frozen? ⟨b, o, none⟩) :=
  ⟨fun b o h => hb.cell (p := ⟨b, o, none⟩) h, fun b o h => hb.frozen (p := ⟨b, o, none⟩) h⟩

/-- A callee that lays only new blocks, after which the caller's world is as it was below its own start. -/
theorem below_step {B : Nat} {w0 w w' : World} (h : Below B w0 w) (hB : B ≤ w.heap.size) (k : Below w.heap.size w w') : Below B w0 w' := h.trans (k.mono hB)

/-- Two bytes, as a text. -/
def by2 (a b : Int) : ByteArray := ⟨[UInt8.ofNat a.toNat, UInt8.ofNat b.toNat].toArray⟩
/-- Four bytes, as a text. -/
def by4 (a b c d : Int) : ByteArray := ⟨[UInt8.ofNat a.toNat, UInt8.ofNat b.toNat, UInt8.ofNat c.toNat, UInt8.ofNat d.toNat].toArray⟩
/-- One byte, as a text. -/
def by1 (a : Int) : ByteArray := ⟨[UInt8.ofNat a.toNat].toArray⟩
@[go_sem] theorem by1_size (a : Int) : (by1 a).size = 1 := rfl
@[go_sem] theorem by2_size (a b : Int) : (by2 a b).size = 2 := rfl
@[go_sem] theorem by4_size (a b c d : Int) : (by4 a b c d).size = 4 := rfl
theorem by4_eq (a b c d : Int) : by2 a b ++ by2 c d = by4 a b c d := rfl

section
variable {P : Program}
theorem conv_new (w : World) (src e dst : TypeId) (hs : P.underlying src = some (.slice e)) (he : P.underlying e = some (.int .u8)) (hd : P.underlying dst = some .string) (xs : List Int) (cap : Nat) :
    (convert src dst (.slice (some ⟨w.heap.size, 0, none⟩) xs.length cap)).run P (w.alloc (.cells (xs.map (Value.int .u8)).toArray e)) = .ok (.string (strOfNums xs)) (w.alloc (.cells (xs.map (Value.int .u8)).toArray e)) :=
  run_convert_bytes_arg (P := P) _ src e hs he w.heap.size 0 xs.length cap xs rfl (fun i hi => by
    rw [World.cell?_alloc_mark w _ e (0, 0) (0 + i)]
    simp [List.getElem?_eq_getElem hi, List.getD]) dst hd
theorem conv2 (w : World) (src e dst : TypeId) (hs : P.underlying src = some (.slice e)) (he : P.underlying e = some (.int .u8)) (hd : P.underlying dst = some .string) (a b : Int) :
    (convert src dst (.slice (some ⟨w.heap.size, 0, none⟩) 2 2)).run P (w.alloc (.cells #[.int .u8 a, .int .u8 b] e)) = .ok (.string (by2 a b)) (w.alloc (.cells #[.int .u8 a, .int .u8 b] e)) := by
  have h := conv_new (P := P) w src e dst hs he hd [a, b] 2
  simpa [strOfNums, by2] using h
theorem conv2d (w : World) (src e dst : TypeId) (hs : P.underlying src = some (.slice e)) (he : P.underlying e = some (.int .u8)) (hd : P.underlying dst = some .string) (a b : Int) (n : Nat) (hn : w.heap.size = n) :
    (convert src dst (.slice (some ⟨n, 0, none⟩) 2 2)).run P (w.alloc (.cells #[.int .u8 a, .int .u8 b] e)).drew = .ok (.string (by2 a b)) (w.alloc (.cells #[.int .u8 a, .int .u8 b] e)).drew := by
  subst hn
  exact conv2 (P := P) w.drew src e dst hs he hd a b
/-- The same, in whatever world in which the new block is as it was laid. -/
theorem conv2b (w u : World) (src e dst : TypeId) (hs : P.underlying src = some (.slice e)) (he : P.underlying e = some (.int .u8)) (hd : P.underlying dst = some .string) (a b : Int)
    (h : Below (w.alloc (.cells #[.int .u8 a, .int .u8 b] e)).drew.heap.size (w.alloc (.cells #[.int .u8 a, .int .u8 b] e)).drew u) (n : Nat) (hn : w.heap.size = n) :
    (convert src dst (.slice (some ⟨n, 0, none⟩) 2 2)).run P u = .ok (.string (by2 a b)) u := by
  subst hn
  have h0 : w.heap.size < (w.alloc (.cells #[.int .u8 a, .int .u8 b] e)).drew.heap.size := by show w.heap.size < (w.alloc _).heap.size; simp
  have hc : ∀ j, u.cell? ⟨w.heap.size, j, none⟩ = (#[.int .u8 a, .int .u8 b] : Array Value)[j]? := fun j => (h.cell (p := ⟨w.heap.size, j, none⟩) h0).trans (World.cell?_alloc_mark w _ e (0, 0) j)
  have hr := run_convert_bytes_arg (P := P) u src e hs he w.heap.size 0 2 2 [a, b] rfl (fun i hi => by
    rw [hc (0 + i)]
    match i, hi with
    | 0, _ => rfl
    | 1, _ => rfl) dst hd
  rw [hr]
  simp [strOfNums, by2]
theorem conv4 (w : World) (src e dst : TypeId) (hs : P.underlying src = some (.slice e)) (he : P.underlying e = some (.int .u8)) (hd : P.underlying dst = some .string) (a b c d : Int) :
    (convert src dst (.slice (some ⟨w.heap.size, 0, none⟩) 4 4)).run P (w.alloc (.cells #[.int .u8 a, .int .u8 b, .int .u8 c, .int .u8 d] e)) = .ok (.string (by4 a b c d)) (w.alloc (.cells #[.int .u8 a, .int .u8 b, .int .u8 c, .int .u8 d] e)) := by
  have h := conv_new (P := P) w src e dst hs he hd [a, b, c, d] 4
  simpa [strOfNums, by4] using h
theorem conv1 (w : World) (src e dst : TypeId) (hs : P.underlying src = some (.slice e)) (he : P.underlying e = some (.int .u8)) (hd : P.underlying dst = some .string) (a : Int) :
    (convert src dst (.slice (some ⟨w.heap.size, 0, none⟩) 1 1)).run P (w.alloc (.cells #[.int .u8 a] e)) = .ok (.string (by1 a)) (w.alloc (.cells #[.int .u8 a] e)) := by
  have h := conv_new (P := P) w src e dst hs he hd [a] 1
  simpa [strOfNums, by1] using h
end

/-- Is a number within two bounds? -/
def inB (n a b : Int) : Bool := decide (a ≤ n ∧ n ≤ b)
/-- A valid chunk. -/
def chunkOk (k f : Int) (s : ByteArray) : Bool := decide (0 ≤ k ∧ k ≤ 255 ∧ 0 ≤ f ∧ f ≤ 255 ∧ s.size ≤ 60)
/-- The two bytes of a number. -/
def w2 (n : Int) : ByteArray := by2 (n / 256) (n % 256)
@[go_sem] theorem w2_size (n : Int) : (w2 n).size = 2 := rfl
/-- The four bytes of a number. -/
def w4 (n : Int) : ByteArray := w2 (n / 65536) ++ w2 (n % 65536)
@[go_sem] theorem w4_size (n : Int) : (w4 n).size = 4 := rfl
/-- n zeros. -/
def zeros (n : Nat) : ByteArray := ⟨(List.replicate n 0).toArray⟩
@[go_sem] theorem zeros_size (n : Nat) : (zeros n).size = n := by show (List.replicate n (0 : UInt8)).toArray.size = n; simp
/-- How many zeros fill up to a multiple of four. -/
def padN (n : Nat) : Nat := (4 - n % 4) % 4
/-- A text filled up with zeros to a multiple of four. -/
def padTo (b : ByteArray) : ByteArray := b ++ zeros (padN b.size)
/-- What is lacking of a multiple of four: a loop's measure. -/
def padOf : Value → Nat | .string b => padN b.size | _ => 0
theorem zeros_zero : zeros 0 = ⟨#[]⟩ := rfl
theorem app_empty (b : ByteArray) : b ++ (⟨#[]⟩ : ByteArray) = b := by apply ByteArray.ext; simp
theorem empty_app (b : ByteArray) : (⟨#[]⟩ : ByteArray) ++ b = b := by apply ByteArray.ext; simp
theorem zeros_succ (n : Nat) : zeros n ++ (⟨#[0]⟩ : ByteArray) = zeros (n + 1) := by
  show zeros n ++ (⟨[(0 : UInt8)].toArray⟩ : ByteArray) = zeros (n + 1)
  unfold zeros
  rw [ByteArray.mk_append_mk, List.replicate_succ']
/-- A chunk's bytes ahead of the filling. -/
def chead (k f : Int) (s : ByteArray) : ByteArray := by2 k f ++ w2 (4 + s.size) ++ s
@[go_sem] theorem chead_size (k f : Int) (s : ByteArray) : (chead k f s).size = 4 + s.size := by unfold chead; simp [ByteArray.size_append, by2_size, w2_size]
/-- The bytes of a chunk. -/
def cput (k f : Int) (s : ByteArray) : ByteArray := padTo (chead k f s)

/-- What writing a chunk gives. -/
def chunkPutV (k f : Int) (s : ByteArray) : ByteArray := bif chunkOk k f s then cput k f s else ⟨#[]⟩
theorem chunkPutV_ok {k f : Int} {s : ByteArray} (h : chunkOk k f s = true) : chunkPutV k f s = cput k f s := by unfold chunkPutV; rw [h]; rfl
theorem chunkPutV_no {k f : Int} {s : ByteArray} (h : chunkOk k f s = false) : chunkPutV k f s = ⟨#[]⟩ := by unfold chunkPutV; rw [h]; rfl

/-- A struct of three cells that was laid, behind a call that lays only new blocks. -/
theorem box3 {w w' : World} {a b c : Value} {t : TypeId} (hb : Below (w.alloc (.cells #[a, b, c] t)).heap.size (w.alloc (.cells #[a, b, c] t)) w') :
    w'.cell? ⟨w.heap.size, 0, none⟩ = some a ∧ w'.cell? ⟨w.heap.size, 1, none⟩ = some b ∧ w'.cell? ⟨w.heap.size, 2, none⟩ = some c ∧ w.heap.size < w'.heap.size := by
  have hs : (w.alloc (.cells #[a, b, c] t)).heap.size = w.heap.size + 1 := by simp
  refine ⟨?_, ?_, ?_, ?_⟩
  · rw [hb.cell (p := ⟨w.heap.size, 0, none⟩) (by rw [hs]; exact Nat.lt_succ_self _), World.cell?_alloc_mark]; rfl
  · rw [hb.cell (p := ⟨w.heap.size, 1, none⟩) (by rw [hs]; exact Nat.lt_succ_self _), World.cell?_alloc_mark]; rfl
  · rw [hb.cell (p := ⟨w.heap.size, 2, none⟩) (by rw [hs]; exact Nat.lt_succ_self _), World.cell?_alloc_mark]; rfl
  · have := hb.size; omega
theorem keep1 {W W' : World} {b o : Nat} {v : Value} (hb : Below W.heap.size W W') (hlt : b < W.heap.size) (h : W.cell? ⟨b, o, none⟩ = some v) : W'.cell? ⟨b, o, none⟩ = some v :=
  (hb.cell (p := ⟨b, o, none⟩) hlt).trans h
end Go.Proofs.Ytokjdnfohbabgaa
