/-
  Writing inits and parts: one value for the program's and the reference's functions.
-/
import Derived.Test.YtegjbhngkhdcfaaInit
import Derived.Test.YtegjbhngkhdcfaaData
namespace Go.Proofs.Ytegjbhngkhdcfaa
set_option linter.unusedVariables false
set_option linter.unusedSimpArgs false
open Go.RowKit

def ipK (a b c d : Int) (ans : Bool) : Int := bif initOkV a b c d then (bif ans then 2 else 1) else 0
def ipS (a b c d : Int) : ByteArray := bif initOkV a b c d then initBody a b c d else ⟨#[]⟩
theorem ipS_size (a b c d : Int) : (ipS a b c d).size ≤ 10 := by
  unfold ipS
  cases initOkV a b c d with
  | true => exact Nat.le_of_eq (initBody_size a b c d)
  | false => exact Nat.zero_le _
theorem ipK_range (a b c d : Int) (ans : Bool) : 0 ≤ ipK a b c d ans ∧ ipK a b c d ans ≤ 2 := by
  unfold ipK; cases initOkV a b c d <;> cases ans <;> decide
theorem c_InitPut (a b c d : Int) (ans : Bool) (w : World) : Calls Try.prog 20 #[.agg #[.int .i64 a, .int .i64 b, .int .i64 c, .int .i64 d], .bool ans] w fun e w' =>
    e = .returned (.tuple #[.agg #[.int .i64 (ipK a b c d ans), .int .i64 0, .string (ipS a b c d)], .bool (initOkV a b c d)]) ∧ Below w.heap.size w w' := by
  unfold ipK ipS
  cases h : initOkV a b c d with
  | false => exact c_InitPut_no a b c d ans w h
  | true => exact c_InitPut_yes a b c d ans w h
theorem c_sInitPut (a b c d : Int) (ans : Bool) (w : World) : Calls Try.prog 21 #[.agg #[.int .i64 a, .int .i64 b, .int .i64 c, .int .i64 d], .bool ans] w fun e w' =>
    e = .returned (.tuple #[.agg #[.int .i64 (ipK a b c d ans), .int .i64 0, .string (ipS a b c d)], .bool (initOkV a b c d)]) ∧ Below w.heap.size w w' := by
  unfold ipK ipS
  cases h : initOkV a b c d with
  | false => exact c_sInitPut_no a b c d ans w h
  | true => exact c_sInitPut_yes a b c d ans w h

def dpF (a b c : Int) (f l o : Bool) (s : ByteArray) : Int := bif dataOkV a b c s then flagsV f l o else 0
def dpS (a b c : Int) (s : ByteArray) : ByteArray := bif dataOkV a b c s then dataBody a b c s else ⟨#[]⟩
theorem dpS_size (a b c : Int) (s : ByteArray) : (dpS a b c s).size ≤ 26 := by
  unfold dpS
  cases h : dataOkV a b c s with
  | true => have := dataOk_yes h; show (dataBody a b c s).size ≤ 26; rw [dataBody_size]; omega
  | false => exact Nat.zero_le _
theorem dpF_range (a b c : Int) (f l o : Bool) (s : ByteArray) : 0 ≤ dpF a b c f l o s ∧ dpF a b c f l o s ≤ 7 := by
  unfold dpF; cases dataOkV a b c s <;> cases f <;> cases l <;> cases o <;> decide
theorem c_DataPut (a b c : Int) (f l o : Bool) (s : ByteArray) (w : World) (hs : s.size ≤ maxLen) : Calls Try.prog 33 #[.agg #[.int .i64 a, .int .i64 b, .int .i64 c, .bool f, .bool l, .bool o, .string s]] w fun e w' =>
    e = .returned (.tuple #[.agg #[.int .i64 0, .int .i64 (dpF a b c f l o s), .string (dpS a b c s)], .bool (dataOkV a b c s)]) ∧ Below w.heap.size w w' := by
  unfold dpF dpS
  cases h : dataOkV a b c s with
  | false => exact c_DataPut_no a b c f l o s w hs h
  | true => exact c_DataPut_yes a b c f l o s w h
theorem c_sDataPut (a b c : Int) (f l o : Bool) (s : ByteArray) (w : World) (hs : s.size ≤ maxLen) : Calls Try.prog 31 #[.agg #[.int .i64 a, .int .i64 b, .int .i64 c, .bool f, .bool l, .bool o, .string s]] w fun e w' =>
    e = .returned (.tuple #[.agg #[.int .i64 0, .int .i64 (dpF a b c f l o s), .string (dpS a b c s)], .bool (dataOkV a b c s)]) ∧ Below w.heap.size w w' := by
  unfold dpF dpS
  cases h : dataOkV a b c s with
  | false => exact c_sDataPut_no a b c f l o s w hs h
  | true => exact c_sDataPut_yes a b c f l o s w h
end Go.Proofs.Ytegjbhngkhdcfaa
