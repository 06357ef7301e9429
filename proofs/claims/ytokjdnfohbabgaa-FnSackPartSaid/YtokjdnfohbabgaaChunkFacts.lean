/-
  Plain facts on the bytes of a chunk (no program in sight).
-/
import Derived.Test.YtokjdnfohbabgaaBase
namespace Go.Proofs.Ytokjdnfohbabgaa
set_option linter.unusedVariables false
set_option linter.unusedSimpArgs false
open Go.RowKit

theorem tl (b : ByteArray) : b.toList = b.data.toList := ByteArray.toList_eq b
theorem tl_app (a b : ByteArray) : (a ++ b).toList = a.toList ++ b.toList := by simp [tl, ByteArray.data_append]
theorem tl_len (b : ByteArray) : b.toList.length = b.size := by rw [tl]; rfl
theorem isEmpty_size (b : ByteArray) : b.toList.isEmpty = decide (b.size = 0) := by
  rw [← tl_len]
  cases b.toList <;> simp
theorem padTo_size (b : ByteArray) : (padTo b).size = b.size + padN b.size := by unfold padTo; simp [ByteArray.size_append, zeros_size]
theorem cput_size (k f : Int) (s : ByteArray) : (cput k f s).size = 4 + s.size + padN (4 + s.size) := by unfold cput; rw [padTo_size, chead_size]
theorem chunkPutV_empty (k f : Int) (s : ByteArray) : (chunkPutV k f s).toList.isEmpty = !chunkOk k f s := by
  rw [isEmpty_size]
  cases h : chunkOk k f s with
  | false => rw [chunkPutV_no h]; rfl
  | true => rw [chunkPutV_ok h, cput_size]; simp
end Go.Proofs.Ytokjdnfohbabgaa
