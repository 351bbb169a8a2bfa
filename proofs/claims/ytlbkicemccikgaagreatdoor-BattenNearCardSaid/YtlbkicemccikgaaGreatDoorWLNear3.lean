/- A part of the proof of a law: my own separation logic over the machine, and walks of the program. Condition of each theorem: as its statement says. -/
import Derived.Test.YtlbkicemccikgaaGreatDoorWLNear2
import Derived.Test.YtlbkicemccikgaaGreatDoorProg
set_option linter.all false
namespace Go.Proofs
open Go.Lo
set_option maxRecDepth 100000
instance : Scal Tryz.prog 1 := ⟨by kernel_rfl⟩
instance : ZeroT Tryz.prog 1 (.nilFunc) := ⟨by kernel_rfl⟩
instance : ElemT Tryz.prog 1 1 8 := ⟨by kernel_rfl⟩
instance : Scal Tryz.prog 2 := ⟨by kernel_rfl⟩
instance : ZeroT Tryz.prog 2 (.int .i64 0) := ⟨by kernel_rfl⟩
instance : ElemT Tryz.prog 2 1 8 := ⟨by kernel_rfl⟩
instance : IntT Tryz.prog 2 .i64 := ⟨by kernel_rfl⟩
instance : Scal Tryz.prog 3 := ⟨by kernel_rfl⟩
instance : ZeroT Tryz.prog 3 (.int .i64 0) := ⟨by kernel_rfl⟩
instance : ElemT Tryz.prog 3 1 8 := ⟨by kernel_rfl⟩
instance : IntT Tryz.prog 3 .i64 := ⟨by kernel_rfl⟩
instance : Scal Tryz.prog 4 := ⟨by kernel_rfl⟩
instance : ZeroT Tryz.prog 4 (.bool false) := ⟨by kernel_rfl⟩
instance : ElemT Tryz.prog 4 1 1 := ⟨by kernel_rfl⟩
instance : Scal Tryz.prog 5 := ⟨by kernel_rfl⟩
instance : ZeroT Tryz.prog 5 (.int .u8 0) := ⟨by kernel_rfl⟩
instance : ElemT Tryz.prog 5 1 1 := ⟨by kernel_rfl⟩
instance : IntT Tryz.prog 5 .u8 := ⟨by kernel_rfl⟩
instance : Scal Tryz.prog 6 := ⟨by kernel_rfl⟩
instance : ZeroT Tryz.prog 6 (.int .u8 0) := ⟨by kernel_rfl⟩
instance : ElemT Tryz.prog 6 1 1 := ⟨by kernel_rfl⟩
instance : IntT Tryz.prog 6 .u8 := ⟨by kernel_rfl⟩
instance : AggT Tryz.prog 7 4 := ⟨by kernel_rfl⟩
instance : ZeroT Tryz.prog 7 (.agg [.int .i64 0, .int .i64 0, .bool false, .int .u8 0].toArray) := ⟨by kernel_rfl⟩
instance : ElemT Tryz.prog 7 4 24 := ⟨by kernel_rfl⟩
instance : StructT Tryz.prog 7 [(0, 1), (1, 1), (2, 1), (3, 1)] := ⟨by kernel_rfl⟩
instance : FieldT Tryz.prog 7 0 0 2 := ⟨by kernel_rfl⟩
instance : FieldT Tryz.prog 7 1 1 3 := ⟨by kernel_rfl⟩
instance : FieldT Tryz.prog 7 2 2 4 := ⟨by kernel_rfl⟩
instance : FieldT Tryz.prog 7 3 3 6 := ⟨by kernel_rfl⟩
instance : AggT Tryz.prog 8 4 := ⟨by kernel_rfl⟩
instance : ZeroT Tryz.prog 8 (.agg [.int .i64 0, .int .i64 0, .bool false, .int .u8 0].toArray) := ⟨by kernel_rfl⟩
instance : ElemT Tryz.prog 8 4 24 := ⟨by kernel_rfl⟩
instance : StructT Tryz.prog 8 [(0, 1), (1, 1), (2, 1), (3, 1)] := ⟨by kernel_rfl⟩
instance : FieldT Tryz.prog 8 0 0 2 := ⟨by kernel_rfl⟩
instance : FieldT Tryz.prog 8 1 1 3 := ⟨by kernel_rfl⟩
instance : FieldT Tryz.prog 8 2 2 4 := ⟨by kernel_rfl⟩
instance : FieldT Tryz.prog 8 3 3 6 := ⟨by kernel_rfl⟩
instance : Scal Tryz.prog 9 := ⟨by kernel_rfl⟩
instance : ZeroT Tryz.prog 9 (.string ⟨#[]⟩) := ⟨by kernel_rfl⟩
instance : ElemT Tryz.prog 9 1 16 := ⟨by kernel_rfl⟩
instance : Scal Tryz.prog 10 := ⟨by kernel_rfl⟩
instance : ZeroT Tryz.prog 10 (.string ⟨#[]⟩) := ⟨by kernel_rfl⟩
instance : ElemT Tryz.prog 10 1 16 := ⟨by kernel_rfl⟩
instance : Scal Tryz.prog 11 := ⟨by kernel_rfl⟩
instance : ZeroT Tryz.prog 11 (.string ⟨#[]⟩) := ⟨by kernel_rfl⟩
instance : ElemT Tryz.prog 11 1 16 := ⟨by kernel_rfl⟩
instance : Scal Tryz.prog 12 := ⟨by kernel_rfl⟩
instance : ZeroT Tryz.prog 12 (.int .u64 0) := ⟨by kernel_rfl⟩
instance : ElemT Tryz.prog 12 1 8 := ⟨by kernel_rfl⟩
instance : IntT Tryz.prog 12 .u64 := ⟨by kernel_rfl⟩
instance : AggT Tryz.prog 13 2 := ⟨by kernel_rfl⟩
instance : ZeroT Tryz.prog 13 (.agg [.string ⟨#[]⟩, .int .u64 0].toArray) := ⟨by kernel_rfl⟩
instance : ElemT Tryz.prog 13 2 24 := ⟨by kernel_rfl⟩
instance : StructT Tryz.prog 13 [(0, 1), (1, 1)] := ⟨by kernel_rfl⟩
instance : FieldT Tryz.prog 13 0 0 9 := ⟨by kernel_rfl⟩
instance : FieldT Tryz.prog 13 1 1 12 := ⟨by kernel_rfl⟩
instance : AggT Tryz.prog 14 2 := ⟨by kernel_rfl⟩
instance : ZeroT Tryz.prog 14 (.agg [.string ⟨#[]⟩, .int .u64 0].toArray) := ⟨by kernel_rfl⟩
instance : ElemT Tryz.prog 14 2 24 := ⟨by kernel_rfl⟩
instance : StructT Tryz.prog 14 [(0, 1), (1, 1)] := ⟨by kernel_rfl⟩
instance : FieldT Tryz.prog 14 0 0 9 := ⟨by kernel_rfl⟩
instance : FieldT Tryz.prog 14 1 1 12 := ⟨by kernel_rfl⟩
instance : Scal Tryz.prog 15 := ⟨by kernel_rfl⟩
instance : ZeroT Tryz.prog 15 (.pointer none) := ⟨by kernel_rfl⟩
instance : ElemT Tryz.prog 15 1 8 := ⟨by kernel_rfl⟩
instance : Scal Tryz.prog 16 := ⟨by kernel_rfl⟩
instance : ZeroT Tryz.prog 16 (.pointer none) := ⟨by kernel_rfl⟩
instance : ElemT Tryz.prog 16 1 8 := ⟨by kernel_rfl⟩
instance : Scal Tryz.prog 17 := ⟨by kernel_rfl⟩
instance : ZeroT Tryz.prog 17 (.pointer none) := ⟨by kernel_rfl⟩
instance : ElemT Tryz.prog 17 1 8 := ⟨by kernel_rfl⟩
instance : AggT Tryz.prog 18 1 := ⟨by kernel_rfl⟩
instance : ZeroT Tryz.prog 18 (.agg [.pointer none].toArray) := ⟨by kernel_rfl⟩
instance : ElemT Tryz.prog 18 1 8 := ⟨by kernel_rfl⟩
instance : StructT Tryz.prog 18 [(0, 1)] := ⟨by kernel_rfl⟩
instance : FieldT Tryz.prog 18 0 0 17 := ⟨by kernel_rfl⟩
instance : AggT Tryz.prog 19 1 := ⟨by kernel_rfl⟩
instance : ZeroT Tryz.prog 19 (.agg [.pointer none].toArray) := ⟨by kernel_rfl⟩
instance : ElemT Tryz.prog 19 1 8 := ⟨by kernel_rfl⟩
instance : StructT Tryz.prog 19 [(0, 1)] := ⟨by kernel_rfl⟩
instance : FieldT Tryz.prog 19 0 0 17 := ⟨by kernel_rfl⟩
instance : Scal Tryz.prog 20 := ⟨by kernel_rfl⟩
instance : ZeroT Tryz.prog 20 (.nilIface) := ⟨by kernel_rfl⟩
instance : ElemT Tryz.prog 20 1 16 := ⟨by kernel_rfl⟩
instance : Scal Tryz.prog 21 := ⟨by kernel_rfl⟩
instance : ZeroT Tryz.prog 21 (.int .i32 0) := ⟨by kernel_rfl⟩
instance : ElemT Tryz.prog 21 1 4 := ⟨by kernel_rfl⟩
instance : IntT Tryz.prog 21 .i32 := ⟨by kernel_rfl⟩
instance : Scal Tryz.prog 22 := ⟨by kernel_rfl⟩
instance : ZeroT Tryz.prog 22 (.slice none 0 0) := ⟨by kernel_rfl⟩
instance : ElemT Tryz.prog 22 1 24 := ⟨by kernel_rfl⟩
instance : SliceT Tryz.prog 22 92 2 := ⟨by kernel_rfl⟩
instance : Scal Tryz.prog 23 := ⟨by kernel_rfl⟩
instance : ZeroT Tryz.prog 23 (.slice none 0 0) := ⟨by kernel_rfl⟩
instance : ElemT Tryz.prog 23 1 24 := ⟨by kernel_rfl⟩
instance : SliceT Tryz.prog 23 94 4 := ⟨by kernel_rfl⟩
instance : AggT Tryz.prog 24 5 := ⟨by kernel_rfl⟩
instance : ZeroT Tryz.prog 24 (.agg [.int .i64 0, .int .i64 0, .int .i64 0, .slice none 0 0, .slice none 0 0].toArray) := ⟨by kernel_rfl⟩
instance : ElemT Tryz.prog 24 5 72 := ⟨by kernel_rfl⟩
instance : StructT Tryz.prog 24 [(0, 1), (1, 1), (2, 1), (3, 1), (4, 1)] := ⟨by kernel_rfl⟩
instance : FieldT Tryz.prog 24 0 0 3 := ⟨by kernel_rfl⟩
instance : FieldT Tryz.prog 24 1 1 3 := ⟨by kernel_rfl⟩
instance : FieldT Tryz.prog 24 2 2 3 := ⟨by kernel_rfl⟩
instance : FieldT Tryz.prog 24 3 3 22 := ⟨by kernel_rfl⟩
instance : FieldT Tryz.prog 24 4 4 23 := ⟨by kernel_rfl⟩
instance : AggT Tryz.prog 25 5 := ⟨by kernel_rfl⟩
instance : ZeroT Tryz.prog 25 (.agg [.int .i64 0, .int .i64 0, .int .i64 0, .slice none 0 0, .slice none 0 0].toArray) := ⟨by kernel_rfl⟩
instance : ElemT Tryz.prog 25 5 72 := ⟨by kernel_rfl⟩
instance : StructT Tryz.prog 25 [(0, 1), (1, 1), (2, 1), (3, 1), (4, 1)] := ⟨by kernel_rfl⟩
instance : FieldT Tryz.prog 25 0 0 3 := ⟨by kernel_rfl⟩
instance : FieldT Tryz.prog 25 1 1 3 := ⟨by kernel_rfl⟩
instance : FieldT Tryz.prog 25 2 2 3 := ⟨by kernel_rfl⟩
instance : FieldT Tryz.prog 25 3 3 22 := ⟨by kernel_rfl⟩
instance : FieldT Tryz.prog 25 4 4 23 := ⟨by kernel_rfl⟩
instance : Scal Tryz.prog 26 := ⟨by kernel_rfl⟩
instance : ZeroT Tryz.prog 26 (.slice none 0 0) := ⟨by kernel_rfl⟩
instance : ElemT Tryz.prog 26 1 24 := ⟨by kernel_rfl⟩
instance : SliceT Tryz.prog 26 3 1 := ⟨by kernel_rfl⟩
instance : Scal Tryz.prog 27 := ⟨by kernel_rfl⟩
instance : ZeroT Tryz.prog 27 (.nilFunc) := ⟨by kernel_rfl⟩
instance : ElemT Tryz.prog 27 1 8 := ⟨by kernel_rfl⟩
instance : Scal Tryz.prog 28 := ⟨by kernel_rfl⟩
instance : ZeroT Tryz.prog 28 (.nilFunc) := ⟨by kernel_rfl⟩
instance : ElemT Tryz.prog 28 1 8 := ⟨by kernel_rfl⟩
instance : Scal Tryz.prog 29 := ⟨by kernel_rfl⟩
instance : ZeroT Tryz.prog 29 (.int .i64 0) := ⟨by kernel_rfl⟩
instance : ElemT Tryz.prog 29 1 8 := ⟨by kernel_rfl⟩
instance : IntT Tryz.prog 29 .i64 := ⟨by kernel_rfl⟩
instance : Scal Tryz.prog 30 := ⟨by kernel_rfl⟩
instance : ZeroT Tryz.prog 30 (.nilFunc) := ⟨by kernel_rfl⟩
instance : ElemT Tryz.prog 30 1 8 := ⟨by kernel_rfl⟩
instance : Scal Tryz.prog 32 := ⟨by kernel_rfl⟩
instance : ZeroT Tryz.prog 32 (.nilFunc) := ⟨by kernel_rfl⟩
instance : ElemT Tryz.prog 32 1 8 := ⟨by kernel_rfl⟩
instance : Scal Tryz.prog 34 := ⟨by kernel_rfl⟩
instance : ZeroT Tryz.prog 34 (.nilFunc) := ⟨by kernel_rfl⟩
instance : ElemT Tryz.prog 34 1 8 := ⟨by kernel_rfl⟩
instance : Scal Tryz.prog 36 := ⟨by kernel_rfl⟩
instance : ZeroT Tryz.prog 36 (.nilFunc) := ⟨by kernel_rfl⟩
instance : ElemT Tryz.prog 36 1 8 := ⟨by kernel_rfl⟩
instance : Scal Tryz.prog 37 := ⟨by kernel_rfl⟩
instance : ZeroT Tryz.prog 37 (.nilFunc) := ⟨by kernel_rfl⟩
instance : ElemT Tryz.prog 37 1 8 := ⟨by kernel_rfl⟩
instance : Scal Tryz.prog 38 := ⟨by kernel_rfl⟩
instance : ZeroT Tryz.prog 38 (.nilFunc) := ⟨by kernel_rfl⟩
instance : ElemT Tryz.prog 38 1 8 := ⟨by kernel_rfl⟩
instance : Scal Tryz.prog 39 := ⟨by kernel_rfl⟩
instance : ZeroT Tryz.prog 39 (.nilFunc) := ⟨by kernel_rfl⟩
instance : ElemT Tryz.prog 39 1 8 := ⟨by kernel_rfl⟩
instance : Scal Tryz.prog 40 := ⟨by kernel_rfl⟩
instance : ZeroT Tryz.prog 40 (.nilFunc) := ⟨by kernel_rfl⟩
instance : ElemT Tryz.prog 40 1 8 := ⟨by kernel_rfl⟩
instance : Scal Tryz.prog 41 := ⟨by kernel_rfl⟩
instance : ZeroT Tryz.prog 41 (.int .i64 0) := ⟨by kernel_rfl⟩
instance : ElemT Tryz.prog 41 1 8 := ⟨by kernel_rfl⟩
instance : IntT Tryz.prog 41 .i64 := ⟨by kernel_rfl⟩
instance : Scal Tryz.prog 43 := ⟨by kernel_rfl⟩
instance : ZeroT Tryz.prog 43 (.nilFunc) := ⟨by kernel_rfl⟩
instance : ElemT Tryz.prog 43 1 8 := ⟨by kernel_rfl⟩
instance : Scal Tryz.prog 45 := ⟨by kernel_rfl⟩
instance : ZeroT Tryz.prog 45 (.nilFunc) := ⟨by kernel_rfl⟩
instance : ElemT Tryz.prog 45 1 8 := ⟨by kernel_rfl⟩
instance : Scal Tryz.prog 46 := ⟨by kernel_rfl⟩
instance : ZeroT Tryz.prog 46 (.nilFunc) := ⟨by kernel_rfl⟩
instance : ElemT Tryz.prog 46 1 8 := ⟨by kernel_rfl⟩
instance : Scal Tryz.prog 47 := ⟨by kernel_rfl⟩
instance : ZeroT Tryz.prog 47 (.nilFunc) := ⟨by kernel_rfl⟩
instance : ElemT Tryz.prog 47 1 8 := ⟨by kernel_rfl⟩
instance : Scal Tryz.prog 48 := ⟨by kernel_rfl⟩
instance : ZeroT Tryz.prog 48 (.slice none 0 0) := ⟨by kernel_rfl⟩
instance : ElemT Tryz.prog 48 1 24 := ⟨by kernel_rfl⟩
instance : SliceT Tryz.prog 48 55 1 := ⟨by kernel_rfl⟩
instance : Scal Tryz.prog 49 := ⟨by kernel_rfl⟩
instance : ZeroT Tryz.prog 49 (.nilFunc) := ⟨by kernel_rfl⟩
instance : ElemT Tryz.prog 49 1 8 := ⟨by kernel_rfl⟩
instance : Scal Tryz.prog 50 := ⟨by kernel_rfl⟩
instance : ZeroT Tryz.prog 50 (.nilFunc) := ⟨by kernel_rfl⟩
instance : ElemT Tryz.prog 50 1 8 := ⟨by kernel_rfl⟩
instance : Scal Tryz.prog 51 := ⟨by kernel_rfl⟩
instance : ZeroT Tryz.prog 51 (.nilFunc) := ⟨by kernel_rfl⟩
instance : ElemT Tryz.prog 51 1 8 := ⟨by kernel_rfl⟩
instance : Scal Tryz.prog 52 := ⟨by kernel_rfl⟩
instance : ZeroT Tryz.prog 52 (.nilFunc) := ⟨by kernel_rfl⟩
instance : ElemT Tryz.prog 52 1 8 := ⟨by kernel_rfl⟩
instance : Scal Tryz.prog 53 := ⟨by kernel_rfl⟩
instance : ZeroT Tryz.prog 53 (.nilFunc) := ⟨by kernel_rfl⟩
instance : ElemT Tryz.prog 53 1 8 := ⟨by kernel_rfl⟩
instance : Scal Tryz.prog 54 := ⟨by kernel_rfl⟩
instance : ZeroT Tryz.prog 54 (.nilFunc) := ⟨by kernel_rfl⟩
instance : ElemT Tryz.prog 54 1 8 := ⟨by kernel_rfl⟩
instance : Scal Tryz.prog 55 := ⟨by kernel_rfl⟩
instance : ZeroT Tryz.prog 55 (.int .u16 0) := ⟨by kernel_rfl⟩
instance : ElemT Tryz.prog 55 1 2 := ⟨by kernel_rfl⟩
instance : IntT Tryz.prog 55 .u16 := ⟨by kernel_rfl⟩
instance : Scal Tryz.prog 57 := ⟨by kernel_rfl⟩
instance : ZeroT Tryz.prog 57 (.nilFunc) := ⟨by kernel_rfl⟩
instance : ElemT Tryz.prog 57 1 8 := ⟨by kernel_rfl⟩
instance : Scal Tryz.prog 58 := ⟨by kernel_rfl⟩
instance : ZeroT Tryz.prog 58 (.slice none 0 0) := ⟨by kernel_rfl⟩
instance : ElemT Tryz.prog 58 1 24 := ⟨by kernel_rfl⟩
instance : SliceT Tryz.prog 58 26 1 := ⟨by kernel_rfl⟩
instance : Scal Tryz.prog 59 := ⟨by kernel_rfl⟩
instance : ZeroT Tryz.prog 59 (.nilFunc) := ⟨by kernel_rfl⟩
instance : ElemT Tryz.prog 59 1 8 := ⟨by kernel_rfl⟩
instance : Scal Tryz.prog 60 := ⟨by kernel_rfl⟩
instance : ZeroT Tryz.prog 60 (.nilFunc) := ⟨by kernel_rfl⟩
instance : ElemT Tryz.prog 60 1 8 := ⟨by kernel_rfl⟩
instance : Scal Tryz.prog 61 := ⟨by kernel_rfl⟩
instance : ZeroT Tryz.prog 61 (.nilFunc) := ⟨by kernel_rfl⟩
instance : ElemT Tryz.prog 61 1 8 := ⟨by kernel_rfl⟩
instance : Scal Tryz.prog 63 := ⟨by kernel_rfl⟩
instance : ZeroT Tryz.prog 63 (.nilFunc) := ⟨by kernel_rfl⟩
instance : ElemT Tryz.prog 63 1 8 := ⟨by kernel_rfl⟩
instance : Scal Tryz.prog 64 := ⟨by kernel_rfl⟩
instance : ZeroT Tryz.prog 64 (.nilFunc) := ⟨by kernel_rfl⟩
instance : ElemT Tryz.prog 64 1 8 := ⟨by kernel_rfl⟩
instance : Scal Tryz.prog 65 := ⟨by kernel_rfl⟩
instance : ZeroT Tryz.prog 65 (.nilFunc) := ⟨by kernel_rfl⟩
instance : ElemT Tryz.prog 65 1 8 := ⟨by kernel_rfl⟩
instance : Scal Tryz.prog 66 := ⟨by kernel_rfl⟩
instance : ZeroT Tryz.prog 66 (.nilFunc) := ⟨by kernel_rfl⟩
instance : ElemT Tryz.prog 66 1 8 := ⟨by kernel_rfl⟩
instance : Scal Tryz.prog 68 := ⟨by kernel_rfl⟩
instance : ZeroT Tryz.prog 68 (.nilFunc) := ⟨by kernel_rfl⟩
instance : ElemT Tryz.prog 68 1 8 := ⟨by kernel_rfl⟩
instance : Scal Tryz.prog 69 := ⟨by kernel_rfl⟩
instance : ZeroT Tryz.prog 69 (.nilFunc) := ⟨by kernel_rfl⟩
instance : ElemT Tryz.prog 69 1 8 := ⟨by kernel_rfl⟩
instance : Scal Tryz.prog 70 := ⟨by kernel_rfl⟩
instance : ZeroT Tryz.prog 70 (.nilFunc) := ⟨by kernel_rfl⟩
instance : ElemT Tryz.prog 70 1 8 := ⟨by kernel_rfl⟩
instance : Scal Tryz.prog 71 := ⟨by kernel_rfl⟩
instance : ZeroT Tryz.prog 71 (.nilFunc) := ⟨by kernel_rfl⟩
instance : ElemT Tryz.prog 71 1 8 := ⟨by kernel_rfl⟩
instance : Scal Tryz.prog 72 := ⟨by kernel_rfl⟩
instance : ZeroT Tryz.prog 72 (.nilFunc) := ⟨by kernel_rfl⟩
instance : ElemT Tryz.prog 72 1 8 := ⟨by kernel_rfl⟩
instance : Scal Tryz.prog 73 := ⟨by kernel_rfl⟩
instance : ZeroT Tryz.prog 73 (.nilFunc) := ⟨by kernel_rfl⟩
instance : ElemT Tryz.prog 73 1 8 := ⟨by kernel_rfl⟩
instance : Scal Tryz.prog 74 := ⟨by kernel_rfl⟩
instance : ZeroT Tryz.prog 74 (.int .i16 0) := ⟨by kernel_rfl⟩
instance : ElemT Tryz.prog 74 1 2 := ⟨by kernel_rfl⟩
instance : IntT Tryz.prog 74 .i16 := ⟨by kernel_rfl⟩
instance : Scal Tryz.prog 76 := ⟨by kernel_rfl⟩
instance : ZeroT Tryz.prog 76 (.nilFunc) := ⟨by kernel_rfl⟩
instance : ElemT Tryz.prog 76 1 8 := ⟨by kernel_rfl⟩
instance : Scal Tryz.prog 77 := ⟨by kernel_rfl⟩
instance : ZeroT Tryz.prog 77 (.nilFunc) := ⟨by kernel_rfl⟩
instance : ElemT Tryz.prog 77 1 8 := ⟨by kernel_rfl⟩
instance : Scal Tryz.prog 78 := ⟨by kernel_rfl⟩
instance : ZeroT Tryz.prog 78 (.nilFunc) := ⟨by kernel_rfl⟩
instance : ElemT Tryz.prog 78 1 8 := ⟨by kernel_rfl⟩
instance : Scal Tryz.prog 79 := ⟨by kernel_rfl⟩
instance : ZeroT Tryz.prog 79 (.nilFunc) := ⟨by kernel_rfl⟩
instance : ElemT Tryz.prog 79 1 8 := ⟨by kernel_rfl⟩
instance : Scal Tryz.prog 80 := ⟨by kernel_rfl⟩
instance : ZeroT Tryz.prog 80 (.nilFunc) := ⟨by kernel_rfl⟩
instance : ElemT Tryz.prog 80 1 8 := ⟨by kernel_rfl⟩
instance : Scal Tryz.prog 82 := ⟨by kernel_rfl⟩
instance : ZeroT Tryz.prog 82 (.nilFunc) := ⟨by kernel_rfl⟩
instance : ElemT Tryz.prog 82 1 8 := ⟨by kernel_rfl⟩
instance : Scal Tryz.prog 83 := ⟨by kernel_rfl⟩
instance : ZeroT Tryz.prog 83 (.nilFunc) := ⟨by kernel_rfl⟩
instance : ElemT Tryz.prog 83 1 8 := ⟨by kernel_rfl⟩
instance : Scal Tryz.prog 85 := ⟨by kernel_rfl⟩
instance : ZeroT Tryz.prog 85 (.nilFunc) := ⟨by kernel_rfl⟩
instance : ElemT Tryz.prog 85 1 8 := ⟨by kernel_rfl⟩
instance : Scal Tryz.prog 87 := ⟨by kernel_rfl⟩
instance : ZeroT Tryz.prog 87 (.nilFunc) := ⟨by kernel_rfl⟩
instance : ElemT Tryz.prog 87 1 8 := ⟨by kernel_rfl⟩
instance : Scal Tryz.prog 88 := ⟨by kernel_rfl⟩
instance : ZeroT Tryz.prog 88 (.nilFunc) := ⟨by kernel_rfl⟩
instance : ElemT Tryz.prog 88 1 8 := ⟨by kernel_rfl⟩
instance : Scal Tryz.prog 89 := ⟨by kernel_rfl⟩
instance : ZeroT Tryz.prog 89 (.nilFunc) := ⟨by kernel_rfl⟩
instance : ElemT Tryz.prog 89 1 8 := ⟨by kernel_rfl⟩
instance : Scal Tryz.prog 90 := ⟨by kernel_rfl⟩
instance : ZeroT Tryz.prog 90 (.nilFunc) := ⟨by kernel_rfl⟩
instance : ElemT Tryz.prog 90 1 8 := ⟨by kernel_rfl⟩
instance : AggT Tryz.prog 91 2 := ⟨by kernel_rfl⟩
instance : ZeroT Tryz.prog 91 (.agg [.int .i64 0, .int .i64 0].toArray) := ⟨by kernel_rfl⟩
instance : ElemT Tryz.prog 91 2 16 := ⟨by kernel_rfl⟩
instance : StructT Tryz.prog 91 [(0, 1), (1, 1)] := ⟨by kernel_rfl⟩
instance : FieldT Tryz.prog 91 0 0 3 := ⟨by kernel_rfl⟩
instance : FieldT Tryz.prog 91 1 1 3 := ⟨by kernel_rfl⟩
instance : AggT Tryz.prog 92 2 := ⟨by kernel_rfl⟩
instance : ZeroT Tryz.prog 92 (.agg [.int .i64 0, .int .i64 0].toArray) := ⟨by kernel_rfl⟩
instance : ElemT Tryz.prog 92 2 16 := ⟨by kernel_rfl⟩
instance : StructT Tryz.prog 92 [(0, 1), (1, 1)] := ⟨by kernel_rfl⟩
instance : FieldT Tryz.prog 92 0 0 3 := ⟨by kernel_rfl⟩
instance : FieldT Tryz.prog 92 1 1 3 := ⟨by kernel_rfl⟩
instance : AggT Tryz.prog 93 4 := ⟨by kernel_rfl⟩
instance : ZeroT Tryz.prog 93 (.agg [.int .i64 0, .int .i64 0, .int .i64 0, .int .i64 0].toArray) := ⟨by kernel_rfl⟩
instance : ElemT Tryz.prog 93 4 32 := ⟨by kernel_rfl⟩
instance : StructT Tryz.prog 93 [(0, 1), (1, 1), (2, 2)] := ⟨by kernel_rfl⟩
instance : FieldT Tryz.prog 93 0 0 3 := ⟨by kernel_rfl⟩
instance : FieldT Tryz.prog 93 1 1 3 := ⟨by kernel_rfl⟩
instance : FieldT Tryz.prog 93 2 2 92 := ⟨by kernel_rfl⟩
instance : AggT Tryz.prog 94 4 := ⟨by kernel_rfl⟩
instance : ZeroT Tryz.prog 94 (.agg [.int .i64 0, .int .i64 0, .int .i64 0, .int .i64 0].toArray) := ⟨by kernel_rfl⟩
instance : ElemT Tryz.prog 94 4 32 := ⟨by kernel_rfl⟩
instance : StructT Tryz.prog 94 [(0, 1), (1, 1), (2, 2)] := ⟨by kernel_rfl⟩
instance : FieldT Tryz.prog 94 0 0 3 := ⟨by kernel_rfl⟩
instance : FieldT Tryz.prog 94 1 1 3 := ⟨by kernel_rfl⟩
instance : FieldT Tryz.prog 94 2 2 92 := ⟨by kernel_rfl⟩
instance : Scal Tryz.prog 95 := ⟨by kernel_rfl⟩
instance : ZeroT Tryz.prog 95 (.nilFunc) := ⟨by kernel_rfl⟩
instance : ElemT Tryz.prog 95 1 8 := ⟨by kernel_rfl⟩
instance : Scal Tryz.prog 96 := ⟨by kernel_rfl⟩
instance : ZeroT Tryz.prog 96 (.nilFunc) := ⟨by kernel_rfl⟩
instance : ElemT Tryz.prog 96 1 8 := ⟨by kernel_rfl⟩
instance : Scal Tryz.prog 97 := ⟨by kernel_rfl⟩
instance : ZeroT Tryz.prog 97 (.nilFunc) := ⟨by kernel_rfl⟩
instance : ElemT Tryz.prog 97 1 8 := ⟨by kernel_rfl⟩
instance : Scal Tryz.prog 98 := ⟨by kernel_rfl⟩
instance : ZeroT Tryz.prog 98 (.nilFunc) := ⟨by kernel_rfl⟩
instance : ElemT Tryz.prog 98 1 8 := ⟨by kernel_rfl⟩
instance : Scal Tryz.prog 99 := ⟨by kernel_rfl⟩
instance : ZeroT Tryz.prog 99 (.nilFunc) := ⟨by kernel_rfl⟩
instance : ElemT Tryz.prog 99 1 8 := ⟨by kernel_rfl⟩
instance : Scal Tryz.prog 100 := ⟨by kernel_rfl⟩
instance : ZeroT Tryz.prog 100 (.nilFunc) := ⟨by kernel_rfl⟩
instance : ElemT Tryz.prog 100 1 8 := ⟨by kernel_rfl⟩
instance : Scal Tryz.prog 101 := ⟨by kernel_rfl⟩
instance : ZeroT Tryz.prog 101 (.nilFunc) := ⟨by kernel_rfl⟩
instance : ElemT Tryz.prog 101 1 8 := ⟨by kernel_rfl⟩
instance : Scal Tryz.prog 102 := ⟨by kernel_rfl⟩
instance : ZeroT Tryz.prog 102 (.nilFunc) := ⟨by kernel_rfl⟩
instance : ElemT Tryz.prog 102 1 8 := ⟨by kernel_rfl⟩
instance : Scal Tryz.prog 103 := ⟨by kernel_rfl⟩
instance : ZeroT Tryz.prog 103 (.nilFunc) := ⟨by kernel_rfl⟩
instance : ElemT Tryz.prog 103 1 8 := ⟨by kernel_rfl⟩
instance : Scal Tryz.prog 104 := ⟨by kernel_rfl⟩
instance : ZeroT Tryz.prog 104 (.nilFunc) := ⟨by kernel_rfl⟩
instance : ElemT Tryz.prog 104 1 8 := ⟨by kernel_rfl⟩
instance : Scal Tryz.prog 105 := ⟨by kernel_rfl⟩
instance : ZeroT Tryz.prog 105 (.nilFunc) := ⟨by kernel_rfl⟩
instance : ElemT Tryz.prog 105 1 8 := ⟨by kernel_rfl⟩
instance : Scal Tryz.prog 106 := ⟨by kernel_rfl⟩
instance : ZeroT Tryz.prog 106 (.nilFunc) := ⟨by kernel_rfl⟩
instance : ElemT Tryz.prog 106 1 8 := ⟨by kernel_rfl⟩
instance : AggT Tryz.prog 107 3 := ⟨by kernel_rfl⟩
instance : ZeroT Tryz.prog 107 (.agg [.nilFunc, .nilFunc, .nilFunc].toArray) := ⟨by kernel_rfl⟩
instance : ElemT Tryz.prog 107 3 24 := ⟨by kernel_rfl⟩
instance : ArrayT Tryz.prog 107 3 106 1 := ⟨by kernel_rfl⟩
instance : AggT Tryz.prog 108 5 := ⟨by kernel_rfl⟩
instance : ZeroT Tryz.prog 108 (.agg [.int .i64 0, .int .i64 0, .int .i64 0, .slice none 0 0, .slice none 0 0].toArray) := ⟨by kernel_rfl⟩
instance : ElemT Tryz.prog 108 5 72 := ⟨by kernel_rfl⟩
instance : StructT Tryz.prog 108 [(0, 5)] := ⟨by kernel_rfl⟩
instance : FieldT Tryz.prog 108 0 0 25 := ⟨by kernel_rfl⟩
instance : AggT Tryz.prog 109 5 := ⟨by kernel_rfl⟩
instance : ZeroT Tryz.prog 109 (.agg [.int .i64 0, .int .i64 0, .int .i64 0, .slice none 0 0, .slice none 0 0].toArray) := ⟨by kernel_rfl⟩
instance : ElemT Tryz.prog 109 5 72 := ⟨by kernel_rfl⟩
instance : StructT Tryz.prog 109 [(0, 5)] := ⟨by kernel_rfl⟩
instance : FieldT Tryz.prog 109 0 0 25 := ⟨by kernel_rfl⟩
instance : Scal Tryz.prog 110 := ⟨by kernel_rfl⟩
instance : ZeroT Tryz.prog 110 (.nilFunc) := ⟨by kernel_rfl⟩
instance : ElemT Tryz.prog 110 1 8 := ⟨by kernel_rfl⟩
instance : AggT Tryz.prog 111 7 := ⟨by kernel_rfl⟩
instance : ZeroT Tryz.prog 111 (.agg [.int .i64 0, .int .i64 0, .int .i64 0, .int .i64 0, .int .i64 0, .int .i64 0, .int .i64 0].toArray) := ⟨by kernel_rfl⟩
instance : ElemT Tryz.prog 111 7 56 := ⟨by kernel_rfl⟩
instance : ArrayT Tryz.prog 111 7 3 1 := ⟨by kernel_rfl⟩
instance : AggT Tryz.prog 112 7 := ⟨by kernel_rfl⟩
instance : ZeroT Tryz.prog 112 (.agg [.int .i64 0, .int .i64 0, .int .i64 0, .int .i64 0, .int .i64 0, .int .i64 0, .int .i64 0].toArray) := ⟨by kernel_rfl⟩
instance : ElemT Tryz.prog 112 7 56 := ⟨by kernel_rfl⟩
instance : ArrayT Tryz.prog 112 7 3 1 := ⟨by kernel_rfl⟩
instance : Scal Tryz.prog 114 := ⟨by kernel_rfl⟩
instance : ZeroT Tryz.prog 114 (.nilFunc) := ⟨by kernel_rfl⟩
instance : ElemT Tryz.prog 114 1 8 := ⟨by kernel_rfl⟩
instance : Scal Tryz.prog 115 := ⟨by kernel_rfl⟩
instance : ZeroT Tryz.prog 115 (.nilFunc) := ⟨by kernel_rfl⟩
instance : ElemT Tryz.prog 115 1 8 := ⟨by kernel_rfl⟩
instance : Scal Tryz.prog 116 := ⟨by kernel_rfl⟩
instance : ZeroT Tryz.prog 116 (.nilFunc) := ⟨by kernel_rfl⟩
instance : ElemT Tryz.prog 116 1 8 := ⟨by kernel_rfl⟩
instance : Scal Tryz.prog 117 := ⟨by kernel_rfl⟩
instance : ZeroT Tryz.prog 117 (.nilFunc) := ⟨by kernel_rfl⟩
instance : ElemT Tryz.prog 117 1 8 := ⟨by kernel_rfl⟩
instance : Scal Tryz.prog 118 := ⟨by kernel_rfl⟩
instance : ZeroT Tryz.prog 118 (.nilFunc) := ⟨by kernel_rfl⟩
instance : ElemT Tryz.prog 118 1 8 := ⟨by kernel_rfl⟩
instance : Scal Tryz.prog 119 := ⟨by kernel_rfl⟩
instance : ZeroT Tryz.prog 119 (.nilFunc) := ⟨by kernel_rfl⟩
instance : ElemT Tryz.prog 119 1 8 := ⟨by kernel_rfl⟩
instance : Scal Tryz.prog 120 := ⟨by kernel_rfl⟩
instance : ZeroT Tryz.prog 120 (.slice none 0 0) := ⟨by kernel_rfl⟩
instance : ElemT Tryz.prog 120 1 24 := ⟨by kernel_rfl⟩
instance : SliceT Tryz.prog 120 112 7 := ⟨by kernel_rfl⟩
instance : Scal Tryz.prog 121 := ⟨by kernel_rfl⟩
instance : ZeroT Tryz.prog 121 (.nilFunc) := ⟨by kernel_rfl⟩
instance : ElemT Tryz.prog 121 1 8 := ⟨by kernel_rfl⟩
instance : AggT Tryz.prog 122 6 := ⟨by kernel_rfl⟩
instance : ZeroT Tryz.prog 122 (.agg [.int .i64 0, .int .i64 0, .int .i64 0, .slice none 0 0, .slice none 0 0, .slice none 0 0].toArray) := ⟨by kernel_rfl⟩
instance : ElemT Tryz.prog 122 6 96 := ⟨by kernel_rfl⟩
instance : StructT Tryz.prog 122 [(0, 5), (5, 1)] := ⟨by kernel_rfl⟩
instance : FieldT Tryz.prog 122 0 0 109 := ⟨by kernel_rfl⟩
instance : FieldT Tryz.prog 122 1 5 120 := ⟨by kernel_rfl⟩
instance : AggT Tryz.prog 123 6 := ⟨by kernel_rfl⟩
instance : ZeroT Tryz.prog 123 (.agg [.int .i64 0, .int .i64 0, .int .i64 0, .slice none 0 0, .slice none 0 0, .slice none 0 0].toArray) := ⟨by kernel_rfl⟩
instance : ElemT Tryz.prog 123 6 96 := ⟨by kernel_rfl⟩
instance : StructT Tryz.prog 123 [(0, 5), (5, 1)] := ⟨by kernel_rfl⟩
instance : FieldT Tryz.prog 123 0 0 109 := ⟨by kernel_rfl⟩
instance : FieldT Tryz.prog 123 1 5 120 := ⟨by kernel_rfl⟩
instance : Scal Tryz.prog 125 := ⟨by kernel_rfl⟩
instance : ZeroT Tryz.prog 125 (.nilFunc) := ⟨by kernel_rfl⟩
instance : ElemT Tryz.prog 125 1 8 := ⟨by kernel_rfl⟩
instance : Scal Tryz.prog 126 := ⟨by kernel_rfl⟩
instance : ZeroT Tryz.prog 126 (.nilFunc) := ⟨by kernel_rfl⟩
instance : ElemT Tryz.prog 126 1 8 := ⟨by kernel_rfl⟩
instance : Scal Tryz.prog 127 := ⟨by kernel_rfl⟩
instance : ZeroT Tryz.prog 127 (.nilFunc) := ⟨by kernel_rfl⟩
instance : ElemT Tryz.prog 127 1 8 := ⟨by kernel_rfl⟩
instance : Scal Tryz.prog 129 := ⟨by kernel_rfl⟩
instance : ZeroT Tryz.prog 129 (.nilFunc) := ⟨by kernel_rfl⟩
instance : ElemT Tryz.prog 129 1 8 := ⟨by kernel_rfl⟩
instance : Scal Tryz.prog 130 := ⟨by kernel_rfl⟩
instance : ZeroT Tryz.prog 130 (.nilFunc) := ⟨by kernel_rfl⟩
instance : ElemT Tryz.prog 130 1 8 := ⟨by kernel_rfl⟩
instance : Scal Tryz.prog 131 := ⟨by kernel_rfl⟩
instance : ZeroT Tryz.prog 131 (.nilFunc) := ⟨by kernel_rfl⟩
instance : ElemT Tryz.prog 131 1 8 := ⟨by kernel_rfl⟩
instance : Scal Tryz.prog 132 := ⟨by kernel_rfl⟩
instance : ZeroT Tryz.prog 132 (.nilFunc) := ⟨by kernel_rfl⟩
instance : ElemT Tryz.prog 132 1 8 := ⟨by kernel_rfl⟩
instance : Scal Tryz.prog 133 := ⟨by kernel_rfl⟩
instance : ZeroT Tryz.prog 133 (.nilFunc) := ⟨by kernel_rfl⟩
instance : ElemT Tryz.prog 133 1 8 := ⟨by kernel_rfl⟩
instance : Scal Tryz.prog 134 := ⟨by kernel_rfl⟩
instance : ZeroT Tryz.prog 134 (.nilFunc) := ⟨by kernel_rfl⟩
instance : ElemT Tryz.prog 134 1 8 := ⟨by kernel_rfl⟩
instance : Scal Tryz.prog 136 := ⟨by kernel_rfl⟩
instance : ZeroT Tryz.prog 136 (.nilFunc) := ⟨by kernel_rfl⟩
instance : ElemT Tryz.prog 136 1 8 := ⟨by kernel_rfl⟩
instance : AggT Tryz.prog 137 7 := ⟨by kernel_rfl⟩
instance : ZeroT Tryz.prog 137 (.agg [.int .i64 0, .int .i64 0, .int .i64 0, .int .i64 0, .int .i64 0, .int .i64 0, .int .i64 0].toArray) := ⟨by kernel_rfl⟩
instance : ElemT Tryz.prog 137 7 56 := ⟨by kernel_rfl⟩
instance : StructT Tryz.prog 137 [(0, 7)] := ⟨by kernel_rfl⟩
instance : FieldT Tryz.prog 137 0 0 112 := ⟨by kernel_rfl⟩
instance : AggT Tryz.prog 138 7 := ⟨by kernel_rfl⟩
instance : ZeroT Tryz.prog 138 (.agg [.int .i64 0, .int .i64 0, .int .i64 0, .int .i64 0, .int .i64 0, .int .i64 0, .int .i64 0].toArray) := ⟨by kernel_rfl⟩
instance : ElemT Tryz.prog 138 7 56 := ⟨by kernel_rfl⟩
instance : StructT Tryz.prog 138 [(0, 7)] := ⟨by kernel_rfl⟩
instance : FieldT Tryz.prog 138 0 0 112 := ⟨by kernel_rfl⟩
instance : Scal Tryz.prog 139 := ⟨by kernel_rfl⟩
instance : ZeroT Tryz.prog 139 (.nilFunc) := ⟨by kernel_rfl⟩
instance : ElemT Tryz.prog 139 1 8 := ⟨by kernel_rfl⟩
instance : Scal Tryz.prog 141 := ⟨by kernel_rfl⟩
instance : ZeroT Tryz.prog 141 (.nilFunc) := ⟨by kernel_rfl⟩
instance : ElemT Tryz.prog 141 1 8 := ⟨by kernel_rfl⟩
instance : Scal Tryz.prog 142 := ⟨by kernel_rfl⟩
instance : ZeroT Tryz.prog 142 (.chan none) := ⟨by kernel_rfl⟩
instance : ElemT Tryz.prog 142 1 8 := ⟨by kernel_rfl⟩
instance : Scal Tryz.prog 143 := ⟨by kernel_rfl⟩
instance : ZeroT Tryz.prog 143 (.chan none) := ⟨by kernel_rfl⟩
instance : ElemT Tryz.prog 143 1 8 := ⟨by kernel_rfl⟩
instance : Scal Tryz.prog 144 := ⟨by kernel_rfl⟩
instance : ZeroT Tryz.prog 144 (.nilFunc) := ⟨by kernel_rfl⟩
instance : ElemT Tryz.prog 144 1 8 := ⟨by kernel_rfl⟩
instance : Scal Tryz.prog 145 := ⟨by kernel_rfl⟩
instance : ZeroT Tryz.prog 145 (.map none) := ⟨by kernel_rfl⟩
instance : ElemT Tryz.prog 145 1 8 := ⟨by kernel_rfl⟩
instance : AggT Tryz.prog 146 2 := ⟨by kernel_rfl⟩
instance : ZeroT Tryz.prog 146 (.agg [.int .i64 0, .int .i64 0].toArray) := ⟨by kernel_rfl⟩
instance : ElemT Tryz.prog 146 2 16 := ⟨by kernel_rfl⟩
instance : StructT Tryz.prog 146 [(0, 1), (1, 1)] := ⟨by kernel_rfl⟩
instance : FieldT Tryz.prog 146 0 0 3 := ⟨by kernel_rfl⟩
instance : FieldT Tryz.prog 146 1 1 3 := ⟨by kernel_rfl⟩
instance : AggT Tryz.prog 147 2 := ⟨by kernel_rfl⟩
instance : ZeroT Tryz.prog 147 (.agg [.int .i64 0, .int .i64 0].toArray) := ⟨by kernel_rfl⟩
instance : ElemT Tryz.prog 147 2 16 := ⟨by kernel_rfl⟩
instance : StructT Tryz.prog 147 [(0, 1), (1, 1)] := ⟨by kernel_rfl⟩
instance : FieldT Tryz.prog 147 0 0 3 := ⟨by kernel_rfl⟩
instance : FieldT Tryz.prog 147 1 1 3 := ⟨by kernel_rfl⟩
instance : Scal Tryz.prog 148 := ⟨by kernel_rfl⟩
instance : ZeroT Tryz.prog 148 (.slice none 0 0) := ⟨by kernel_rfl⟩
instance : ElemT Tryz.prog 148 1 24 := ⟨by kernel_rfl⟩
instance : SliceT Tryz.prog 148 25 5 := ⟨by kernel_rfl⟩
instance : Scal Tryz.prog 149 := ⟨by kernel_rfl⟩
instance : ZeroT Tryz.prog 149 (.nilFunc) := ⟨by kernel_rfl⟩
instance : ElemT Tryz.prog 149 1 8 := ⟨by kernel_rfl⟩
instance : Scal Tryz.prog 150 := ⟨by kernel_rfl⟩
instance : ZeroT Tryz.prog 150 (.nilFunc) := ⟨by kernel_rfl⟩
instance : ElemT Tryz.prog 150 1 8 := ⟨by kernel_rfl⟩
instance : Scal Tryz.prog 152 := ⟨by kernel_rfl⟩
instance : ZeroT Tryz.prog 152 (.nilFunc) := ⟨by kernel_rfl⟩
instance : ElemT Tryz.prog 152 1 8 := ⟨by kernel_rfl⟩
instance : Scal Tryz.prog 153 := ⟨by kernel_rfl⟩
instance : ZeroT Tryz.prog 153 (.nilFunc) := ⟨by kernel_rfl⟩
instance : ElemT Tryz.prog 153 1 8 := ⟨by kernel_rfl⟩
instance : Scal Tryz.prog 154 := ⟨by kernel_rfl⟩
instance : ZeroT Tryz.prog 154 (.nilFunc) := ⟨by kernel_rfl⟩
instance : ElemT Tryz.prog 154 1 8 := ⟨by kernel_rfl⟩
instance : Scal Tryz.prog 155 := ⟨by kernel_rfl⟩
instance : ZeroT Tryz.prog 155 (.nilFunc) := ⟨by kernel_rfl⟩
instance : ElemT Tryz.prog 155 1 8 := ⟨by kernel_rfl⟩
instance : Scal Tryz.prog 156 := ⟨by kernel_rfl⟩
instance : ZeroT Tryz.prog 156 (.nilFunc) := ⟨by kernel_rfl⟩
instance : ElemT Tryz.prog 156 1 8 := ⟨by kernel_rfl⟩
instance : Scal Tryz.prog 157 := ⟨by kernel_rfl⟩
instance : ZeroT Tryz.prog 157 (.nilFunc) := ⟨by kernel_rfl⟩
instance : ElemT Tryz.prog 157 1 8 := ⟨by kernel_rfl⟩
instance : Scal Tryz.prog 158 := ⟨by kernel_rfl⟩
instance : ZeroT Tryz.prog 158 (.nilFunc) := ⟨by kernel_rfl⟩
instance : ElemT Tryz.prog 158 1 8 := ⟨by kernel_rfl⟩
instance : Scal Tryz.prog 159 := ⟨by kernel_rfl⟩
instance : ZeroT Tryz.prog 159 (.nilFunc) := ⟨by kernel_rfl⟩
instance : ElemT Tryz.prog 159 1 8 := ⟨by kernel_rfl⟩
instance : Scal Tryz.prog 160 := ⟨by kernel_rfl⟩
instance : ZeroT Tryz.prog 160 (.nilFunc) := ⟨by kernel_rfl⟩
instance : ElemT Tryz.prog 160 1 8 := ⟨by kernel_rfl⟩
instance : Scal Tryz.prog 161 := ⟨by kernel_rfl⟩
instance : ZeroT Tryz.prog 161 (.nilFunc) := ⟨by kernel_rfl⟩
instance : ElemT Tryz.prog 161 1 8 := ⟨by kernel_rfl⟩
instance : Scal Tryz.prog 162 := ⟨by kernel_rfl⟩
instance : ZeroT Tryz.prog 162 (.nilFunc) := ⟨by kernel_rfl⟩
instance : ElemT Tryz.prog 162 1 8 := ⟨by kernel_rfl⟩
instance : Scal Tryz.prog 163 := ⟨by kernel_rfl⟩
instance : ZeroT Tryz.prog 163 (.nilFunc) := ⟨by kernel_rfl⟩
instance : ElemT Tryz.prog 163 1 8 := ⟨by kernel_rfl⟩
instance : Scal Tryz.prog 164 := ⟨by kernel_rfl⟩
instance : ZeroT Tryz.prog 164 (.nilFunc) := ⟨by kernel_rfl⟩
instance : ElemT Tryz.prog 164 1 8 := ⟨by kernel_rfl⟩
instance : Scal Tryz.prog 165 := ⟨by kernel_rfl⟩
instance : ZeroT Tryz.prog 165 (.nilFunc) := ⟨by kernel_rfl⟩
instance : ElemT Tryz.prog 165 1 8 := ⟨by kernel_rfl⟩
instance : Scal Tryz.prog 166 := ⟨by kernel_rfl⟩
instance : ZeroT Tryz.prog 166 (.int .u64 0) := ⟨by kernel_rfl⟩
instance : ElemT Tryz.prog 166 1 8 := ⟨by kernel_rfl⟩
instance : IntT Tryz.prog 166 .u64 := ⟨by kernel_rfl⟩
instance : Scal Tryz.prog 167 := ⟨by kernel_rfl⟩
instance : ZeroT Tryz.prog 167 (.slice none 0 0) := ⟨by kernel_rfl⟩
instance : ElemT Tryz.prog 167 1 24 := ⟨by kernel_rfl⟩
instance : SliceT Tryz.prog 167 117 1 := ⟨by kernel_rfl⟩
instance : Scal Tryz.prog 168 := ⟨by kernel_rfl⟩
instance : ZeroT Tryz.prog 168 (.nilFunc) := ⟨by kernel_rfl⟩
instance : ElemT Tryz.prog 168 1 8 := ⟨by kernel_rfl⟩
instance : Scal Tryz.prog 169 := ⟨by kernel_rfl⟩
instance : ZeroT Tryz.prog 169 (.nilFunc) := ⟨by kernel_rfl⟩
instance : ElemT Tryz.prog 169 1 8 := ⟨by kernel_rfl⟩
instance : Scal Tryz.prog 170 := ⟨by kernel_rfl⟩
instance : ZeroT Tryz.prog 170 (.nilFunc) := ⟨by kernel_rfl⟩
instance : ElemT Tryz.prog 170 1 8 := ⟨by kernel_rfl⟩
instance : Scal Tryz.prog 171 := ⟨by kernel_rfl⟩
instance : ZeroT Tryz.prog 171 (.nilFunc) := ⟨by kernel_rfl⟩
instance : ElemT Tryz.prog 171 1 8 := ⟨by kernel_rfl⟩
instance : Scal Tryz.prog 172 := ⟨by kernel_rfl⟩
instance : ZeroT Tryz.prog 172 (.nilFunc) := ⟨by kernel_rfl⟩
instance : ElemT Tryz.prog 172 1 8 := ⟨by kernel_rfl⟩
instance : Scal Tryz.prog 173 := ⟨by kernel_rfl⟩
instance : ZeroT Tryz.prog 173 (.nilFunc) := ⟨by kernel_rfl⟩
instance : ElemT Tryz.prog 173 1 8 := ⟨by kernel_rfl⟩
instance : Scal Tryz.prog 174 := ⟨by kernel_rfl⟩
instance : ZeroT Tryz.prog 174 (.int .i64 0) := ⟨by kernel_rfl⟩
instance : ElemT Tryz.prog 174 1 8 := ⟨by kernel_rfl⟩
instance : IntT Tryz.prog 174 .i64 := ⟨by kernel_rfl⟩
instance : Scal Tryz.prog 176 := ⟨by kernel_rfl⟩
instance : ZeroT Tryz.prog 176 (.nilFunc) := ⟨by kernel_rfl⟩
instance : ElemT Tryz.prog 176 1 8 := ⟨by kernel_rfl⟩
instance : Scal Tryz.prog 177 := ⟨by kernel_rfl⟩
instance : ZeroT Tryz.prog 177 (.nilFunc) := ⟨by kernel_rfl⟩
instance : ElemT Tryz.prog 177 1 8 := ⟨by kernel_rfl⟩
instance : Scal Tryz.prog 178 := ⟨by kernel_rfl⟩
instance : ZeroT Tryz.prog 178 (.nilFunc) := ⟨by kernel_rfl⟩
instance : ElemT Tryz.prog 178 1 8 := ⟨by kernel_rfl⟩
instance : Scal Tryz.prog 179 := ⟨by kernel_rfl⟩
instance : ZeroT Tryz.prog 179 (.nilFunc) := ⟨by kernel_rfl⟩
instance : ElemT Tryz.prog 179 1 8 := ⟨by kernel_rfl⟩
instance : Scal Tryz.prog 180 := ⟨by kernel_rfl⟩
instance : ZeroT Tryz.prog 180 (.nilFunc) := ⟨by kernel_rfl⟩
instance : ElemT Tryz.prog 180 1 8 := ⟨by kernel_rfl⟩
instance : Scal Tryz.prog 181 := ⟨by kernel_rfl⟩
instance : ZeroT Tryz.prog 181 (.nilFunc) := ⟨by kernel_rfl⟩
instance : ElemT Tryz.prog 181 1 8 := ⟨by kernel_rfl⟩
instance : Scal Tryz.prog 182 := ⟨by kernel_rfl⟩
instance : ZeroT Tryz.prog 182 (.int .u32 0) := ⟨by kernel_rfl⟩
instance : ElemT Tryz.prog 182 1 4 := ⟨by kernel_rfl⟩
instance : IntT Tryz.prog 182 .u32 := ⟨by kernel_rfl⟩
instance : Scal Tryz.prog 183 := ⟨by kernel_rfl⟩
instance : ZeroT Tryz.prog 183 (.nilFunc) := ⟨by kernel_rfl⟩
instance : ElemT Tryz.prog 183 1 8 := ⟨by kernel_rfl⟩
instance : Scal Tryz.prog 184 := ⟨by kernel_rfl⟩
instance : ZeroT Tryz.prog 184 (.int .u64 0) := ⟨by kernel_rfl⟩
instance : ElemT Tryz.prog 184 1 8 := ⟨by kernel_rfl⟩
instance : IntT Tryz.prog 184 .u64 := ⟨by kernel_rfl⟩
instance : Scal Tryz.prog 185 := ⟨by kernel_rfl⟩
instance : ZeroT Tryz.prog 185 (.nilFunc) := ⟨by kernel_rfl⟩
instance : ElemT Tryz.prog 185 1 8 := ⟨by kernel_rfl⟩
instance : Scal Tryz.prog 186 := ⟨by kernel_rfl⟩
instance : ZeroT Tryz.prog 186 (.nilFunc) := ⟨by kernel_rfl⟩
instance : ElemT Tryz.prog 186 1 8 := ⟨by kernel_rfl⟩
instance : Scal Tryz.prog 187 := ⟨by kernel_rfl⟩
instance : ZeroT Tryz.prog 187 (.int .u64 0) := ⟨by kernel_rfl⟩
instance : ElemT Tryz.prog 187 1 8 := ⟨by kernel_rfl⟩
instance : IntT Tryz.prog 187 .u64 := ⟨by kernel_rfl⟩
instance : Scal Tryz.prog 188 := ⟨by kernel_rfl⟩
instance : ZeroT Tryz.prog 188 (.nilFunc) := ⟨by kernel_rfl⟩
instance : ElemT Tryz.prog 188 1 8 := ⟨by kernel_rfl⟩
instance : Scal Tryz.prog 189 := ⟨by kernel_rfl⟩
instance : ZeroT Tryz.prog 189 (.nilFunc) := ⟨by kernel_rfl⟩
instance : ElemT Tryz.prog 189 1 8 := ⟨by kernel_rfl⟩
instance : Scal Tryz.prog 190 := ⟨by kernel_rfl⟩
instance : ZeroT Tryz.prog 190 (.nilFunc) := ⟨by kernel_rfl⟩
instance : ElemT Tryz.prog 190 1 8 := ⟨by kernel_rfl⟩
instance : Scal Tryz.prog 191 := ⟨by kernel_rfl⟩
instance : ZeroT Tryz.prog 191 (.pointer none) := ⟨by kernel_rfl⟩
instance : ElemT Tryz.prog 191 1 8 := ⟨by kernel_rfl⟩
instance : Scal Tryz.prog 192 := ⟨by kernel_rfl⟩
instance : ZeroT Tryz.prog 192 (.nilFunc) := ⟨by kernel_rfl⟩
instance : ElemT Tryz.prog 192 1 8 := ⟨by kernel_rfl⟩
instance : Scal Tryz.prog 193 := ⟨by kernel_rfl⟩
instance : ZeroT Tryz.prog 193 (.pointer none) := ⟨by kernel_rfl⟩
instance : ElemT Tryz.prog 193 1 8 := ⟨by kernel_rfl⟩
instance : Scal Tryz.prog 194 := ⟨by kernel_rfl⟩
instance : ZeroT Tryz.prog 194 (.nilFunc) := ⟨by kernel_rfl⟩
instance : ElemT Tryz.prog 194 1 8 := ⟨by kernel_rfl⟩
instance : Scal Tryz.prog 195 := ⟨by kernel_rfl⟩
instance : ZeroT Tryz.prog 195 (.nilFunc) := ⟨by kernel_rfl⟩
instance : ElemT Tryz.prog 195 1 8 := ⟨by kernel_rfl⟩
instance : AggT Tryz.prog 196 4 := ⟨by kernel_rfl⟩
instance : ZeroT Tryz.prog 196 (.agg [.pointer none, .pointer none, .pointer none, .string ⟨#[]⟩].toArray) := ⟨by kernel_rfl⟩
instance : ElemT Tryz.prog 196 4 40 := ⟨by kernel_rfl⟩
instance : StructT Tryz.prog 196 [(0, 1), (1, 1), (2, 1), (3, 1)] := ⟨by kernel_rfl⟩
instance : FieldT Tryz.prog 196 0 0 17 := ⟨by kernel_rfl⟩
instance : FieldT Tryz.prog 196 1 1 17 := ⟨by kernel_rfl⟩
instance : FieldT Tryz.prog 196 2 2 17 := ⟨by kernel_rfl⟩
instance : FieldT Tryz.prog 196 3 3 9 := ⟨by kernel_rfl⟩
instance : AggT Tryz.prog 197 4 := ⟨by kernel_rfl⟩
instance : ZeroT Tryz.prog 197 (.agg [.pointer none, .pointer none, .pointer none, .string ⟨#[]⟩].toArray) := ⟨by kernel_rfl⟩
instance : ElemT Tryz.prog 197 4 40 := ⟨by kernel_rfl⟩
instance : StructT Tryz.prog 197 [(0, 1), (1, 1), (2, 1), (3, 1)] := ⟨by kernel_rfl⟩
instance : FieldT Tryz.prog 197 0 0 17 := ⟨by kernel_rfl⟩
instance : FieldT Tryz.prog 197 1 1 17 := ⟨by kernel_rfl⟩
instance : FieldT Tryz.prog 197 2 2 17 := ⟨by kernel_rfl⟩
instance : FieldT Tryz.prog 197 3 3 9 := ⟨by kernel_rfl⟩
instance : Scal Tryz.prog 201 := ⟨by kernel_rfl⟩
instance : ZeroT Tryz.prog 201 (.int .u8 0) := ⟨by kernel_rfl⟩
instance : ElemT Tryz.prog 201 1 1 := ⟨by kernel_rfl⟩
instance : IntT Tryz.prog 201 .u8 := ⟨by kernel_rfl⟩
instance : Scal Tryz.prog 202 := ⟨by kernel_rfl⟩
instance : ZeroT Tryz.prog 202 (.int .u8 0) := ⟨by kernel_rfl⟩
instance : ElemT Tryz.prog 202 1 1 := ⟨by kernel_rfl⟩
instance : IntT Tryz.prog 202 .u8 := ⟨by kernel_rfl⟩
instance : Scal Tryz.prog 203 := ⟨by kernel_rfl⟩
instance : ZeroT Tryz.prog 203 (.nilFunc) := ⟨by kernel_rfl⟩
instance : ElemT Tryz.prog 203 1 8 := ⟨by kernel_rfl⟩
instance : Scal Tryz.prog 204 := ⟨by kernel_rfl⟩
instance : ZeroT Tryz.prog 204 (.pointer none) := ⟨by kernel_rfl⟩
instance : ElemT Tryz.prog 204 1 8 := ⟨by kernel_rfl⟩
instance : Scal Tryz.prog 205 := ⟨by kernel_rfl⟩
instance : ZeroT Tryz.prog 205 (.int .i32 0) := ⟨by kernel_rfl⟩
instance : ElemT Tryz.prog 205 1 4 := ⟨by kernel_rfl⟩
instance : IntT Tryz.prog 205 .i32 := ⟨by kernel_rfl⟩
instance : Scal Tryz.prog 206 := ⟨by kernel_rfl⟩
instance : ZeroT Tryz.prog 206 (.int .i32 0) := ⟨by kernel_rfl⟩
instance : ElemT Tryz.prog 206 1 4 := ⟨by kernel_rfl⟩
instance : IntT Tryz.prog 206 .i32 := ⟨by kernel_rfl⟩
instance : AggT Tryz.prog 207 11 := ⟨by kernel_rfl⟩
instance : ZeroT Tryz.prog 207 (.agg [.int .u64 0, .int .u64 0, .int .u32 0, .int .u8 0, .int .u8 0, .int .u8 0, .int .u8 0, .nilFunc, .pointer none, .int .i32 0, .int .i32 0].toArray) := ⟨by kernel_rfl⟩
instance : ElemT Tryz.prog 207 11 48 := ⟨by kernel_rfl⟩
instance : StructT Tryz.prog 207 [(0, 1), (1, 1), (2, 1), (3, 1), (4, 1), (5, 1), (6, 1), (7, 1), (8, 1), (9, 1), (10, 1)] := ⟨by kernel_rfl⟩
instance : FieldT Tryz.prog 207 0 0 12 := ⟨by kernel_rfl⟩
instance : FieldT Tryz.prog 207 1 1 12 := ⟨by kernel_rfl⟩
instance : FieldT Tryz.prog 207 2 2 182 := ⟨by kernel_rfl⟩
instance : FieldT Tryz.prog 207 3 3 201 := ⟨by kernel_rfl⟩
instance : FieldT Tryz.prog 207 4 4 5 := ⟨by kernel_rfl⟩
instance : FieldT Tryz.prog 207 5 5 5 := ⟨by kernel_rfl⟩
instance : FieldT Tryz.prog 207 6 6 202 := ⟨by kernel_rfl⟩
instance : FieldT Tryz.prog 207 7 7 203 := ⟨by kernel_rfl⟩
instance : FieldT Tryz.prog 207 8 8 204 := ⟨by kernel_rfl⟩
instance : FieldT Tryz.prog 207 9 9 205 := ⟨by kernel_rfl⟩
instance : FieldT Tryz.prog 207 10 10 206 := ⟨by kernel_rfl⟩
instance : AggT Tryz.prog 208 11 := ⟨by kernel_rfl⟩
instance : ZeroT Tryz.prog 208 (.agg [.int .u64 0, .int .u64 0, .int .u32 0, .int .u8 0, .int .u8 0, .int .u8 0, .int .u8 0, .nilFunc, .pointer none, .int .i32 0, .int .i32 0].toArray) := ⟨by kernel_rfl⟩
instance : ElemT Tryz.prog 208 11 48 := ⟨by kernel_rfl⟩
instance : StructT Tryz.prog 208 [(0, 1), (1, 1), (2, 1), (3, 1), (4, 1), (5, 1), (6, 1), (7, 1), (8, 1), (9, 1), (10, 1)] := ⟨by kernel_rfl⟩
instance : FieldT Tryz.prog 208 0 0 12 := ⟨by kernel_rfl⟩
instance : FieldT Tryz.prog 208 1 1 12 := ⟨by kernel_rfl⟩
instance : FieldT Tryz.prog 208 2 2 182 := ⟨by kernel_rfl⟩
instance : FieldT Tryz.prog 208 3 3 201 := ⟨by kernel_rfl⟩
instance : FieldT Tryz.prog 208 4 4 5 := ⟨by kernel_rfl⟩
instance : FieldT Tryz.prog 208 5 5 5 := ⟨by kernel_rfl⟩
instance : FieldT Tryz.prog 208 6 6 202 := ⟨by kernel_rfl⟩
instance : FieldT Tryz.prog 208 7 7 203 := ⟨by kernel_rfl⟩
instance : FieldT Tryz.prog 208 8 8 204 := ⟨by kernel_rfl⟩
instance : FieldT Tryz.prog 208 9 9 205 := ⟨by kernel_rfl⟩
instance : FieldT Tryz.prog 208 10 10 206 := ⟨by kernel_rfl⟩
instance : Scal Tryz.prog 210 := ⟨by kernel_rfl⟩
instance : ZeroT Tryz.prog 210 (.nilFunc) := ⟨by kernel_rfl⟩
instance : ElemT Tryz.prog 210 1 8 := ⟨by kernel_rfl⟩
instance : Scal Tryz.prog 211 := ⟨by kernel_rfl⟩
instance : ZeroT Tryz.prog 211 (.nilFunc) := ⟨by kernel_rfl⟩
instance : ElemT Tryz.prog 211 1 8 := ⟨by kernel_rfl⟩
instance : Scal Tryz.prog 212 := ⟨by kernel_rfl⟩
instance : ZeroT Tryz.prog 212 (.nilFunc) := ⟨by kernel_rfl⟩
instance : ElemT Tryz.prog 212 1 8 := ⟨by kernel_rfl⟩
instance : Scal Tryz.prog 213 := ⟨by kernel_rfl⟩
instance : ZeroT Tryz.prog 213 (.nilFunc) := ⟨by kernel_rfl⟩
instance : ElemT Tryz.prog 213 1 8 := ⟨by kernel_rfl⟩
end Go.Proofs
namespace Go.Proofs
open Go.Lo
open Go.Conc (G)
set_option maxRecDepth 100000
set_option synthInstance.maxSize 100000
set_option synthInstance.maxHeartbeats 1000000
set_option maxHeartbeats 4000000
variable {B : Array Obj}
def diffs : List Int → List Int
  | a :: b :: r => (b - a) :: diffs (b :: r)
  | _ => []
theorem diffs_length : ∀ (l : List Int), (diffs l).length = l.length - 1
  | [] => rfl
  | [_] => rfl
  | a :: b :: r => by simp [diffs, diffs_length (b :: r)]
theorem diffs_get : ∀ (l : List Int) (k : Nat), k + 1 < l.length → (diffs l)[k]? = some (l.getD (k + 1) 0 - l.getD k 0)
  | [], k, h => by simp at h
  | [_], k, h => by simp at h
  | a :: b :: r, 0, _ => by simp [diffs]
  | a :: b :: r, k + 1, h => by
    have := diffs_get (b :: r) k (by simpa using h)
    simpa [diffs] using this
theorem diffs_take (l : List Int) (k : Nat) (h : k + 1 < l.length) : (diffs l).take (k + 1) = (diffs l).take k ++ [l.getD (k + 1) 0 - l.getD k 0] := by
  rw [List.take_add_one, diffs_get l k h]; rfl
theorem f144_c (m : Md Tryz.prog B) (h : Hp) (v : Value) (xs : List Int) (n : Nat) (hn : n = xs.length) (hmax : n ≤ 1000) (hb : ∀ j, -100000 ≤ xs.getD j 0 ∧ xs.getD j 0 ≤ 100000) (rd : RdS B h 1 v n (ints xs)) :
    FnC m 144 #[v] h fun v' h' => ∃ new, h' = h ++ new ∧ OwnS 3 1 v' (n - 1) (ints (diffs xs)) new := by
  obtain ⟨p, c, rfl, hl, hp⟩ := id rd
  refine fn_enter Tryz.func144 rfl rfl (l := [.slice p n c, undef, undef, undef, undef, undef, undef, undef, undef, undef, undef, undef, undef, undef, undef, undef, undef, undef, undef, undef, undef, undef, undef, undef, undef]) rfl ?_
  intro cf cs K hK
  refine run_seq ?_
  refine rr1 (by kernel_rfl) (by kernel_rfl) ?_
  refine k_as rfl zt ?_
  refine k_nil ?_
  refine run_seq ?_
  refine rr1 (by kernel_rfl) (by kernel_rfl) ?_
  refine k_as rfl zt ?_
  refine k_nil ?_
  refine run_seq ?_
  refine run_seq ?_
  refine rr1 (by kernel_rfl) (by kernel_rfl) ?_
  refine k_as rfl zt ?_
  refine k_nil ?_
  refine run_block ?_
  refine run_loop (fun nn l h' => ∃ (k : Nat) (w : Value) (new : Hp), nn = n - k ∧ (k + 1 ≤ max n 1) ∧ (OwnS 3 1 w k (ints ((diffs xs).take k)) new) ∧ (∃ U : Nat → Value, l = [.slice p n c, U 1, U 2, w, .int .i64 ((k : Int) + 1), U 5, U 6, U 7, U 8, U 9, U 10, U 11, U 12, U 13, U 14, U 15, U 16, U 17, U 18, U 19, U 20, U 21, U 22, U 23, U 24]) ∧ h ++ new = h') _ ⟨0, _, [], rfl, by omega, OwnS.nil, exU rfl, (by simp)⟩ ?_
  rintro nn l h' ⟨k, w, new, rfl, hk, ho, ⟨U, rfl⟩, rfl⟩ hnext
  subst hn
  refine run_seq ?_
  refine run_seq ?_
  refine rr4 (by kernel_rfl) (by kernel_rfl) ?_
  refine k_mv rfl zt ?_
  refine k_mv rfl zt ?_
  refine k_len rfl zt ?_
  refine k_lssS rfl zt (fun hc => ?_) (fun hc => ?_)
  · refine k_nil ?_
    refine run_yes ?_
    refine run_skip ?_
    refine run_seq ?_
    refine run_block ?_
    refine run_draw [(0, .pure), (1, .pure), (2, .pure), (3, .pure), (5, .pure), (6, .pure), (7, .pure), (8, .pure), (4, .read), (9, .read), (10, .pure), (11, .keep), (12, .free), (13, .pure)] (by kernel_rfl) (by kernel_rfl) (List.Sublist.refl _) ?_
    obtain ⟨b, o, rfl⟩ := rd.ptr (by omega)
    have hb1 := hb (k + 1)
    have hb0 := hb k
    have e1 : ((k : Int) + 1).toNat = k + 1 := by omega
    have e0 : ((k : Int) + 1 - 1).toNat = k := by omega
    refine k_mv rfl zt ?_
    refine k_mv rfl zt ?_
    refine k_mv rfl zt ?_
    refine k_ixs rfl zt (by first | rfl | assumption) (by omega) (by omega) ?_
    refine k_mv rfl zt ?_
    refine k_mv rfl zt ?_
    refine k_sub rfl zt (by unfold In64; omega) ?_
    refine k_ixs rfl zt (by first | rfl | assumption) (by omega) (by omega) ?_
    refine k_ld rfl zt ((rd.int rfl (by omega) (by omega)).app _) ?_
    refine k_ld rfl zt ((rd.int rfl (by omega) (by omega)).app _) ?_
    rw [e1, e0]
    refine k_sub rfl zt (by unfold In64; omega) ?_
    refine k_bs (by first | exact .inl rfl | exact .inr ⟨rfl, SubH.sub⟩) rfl zt (by decide) (by decide) rfl (fun q22 => k_hp (k_put ?_))
    refine k_app1 (F := h) rfl zt rfl ho (by first | exact .inl rfl | exact .inr ⟨rfl, SubH.sub⟩) (by omega) (by omega) (fun w2 new2 ho2 => k_put ?_)
    rw [show ints ((diffs xs).take k) ++ [Value.int .i64 (xs.getD (k + 1) 0 - xs.getD k 0)] = ints ((diffs xs).take (k + 1)) by rw [diffs_take xs k (by omega)]; simp] at ho2
    refine k_as rfl zt ?_
    refine k_nil ?_
    refine run_inBlock ?_
    refine rr3 (by kernel_rfl) (by kernel_rfl) ?_
    refine k_mv rfl zt ?_
    refine k_add rfl zt (by unfold In64; omega) ?_
    refine k_as rfl zt ?_
    refine k_nil ?_
    exact m.weak weakSub (hnext _ _ _ (by omega) ⟨k + 1, _, _, rfl, by omega, ho2, exU rfl, rfl⟩)
  · refine k_nil ?_
    refine run_no ?_
    refine run_exit rfl ?_
    refine run_seq ?_
    refine rr2 (by kernel_rfl) (by kernel_rfl) ?_
    refine k_mv rfl zt ?_
    refine k_as rfl zt ?_
    refine k_nil ?_
    refine run_ret rfl ?_
    refine run_res (h ++ new) rfl Tryz.func144 rfl weakSub ?_
    refine hK _ _ ?_
    obtain rfl : k = xs.length - 1 := by omega
    rw [List.take_of_length_le (by rw [diffs_length]; exact Nat.le_refl _)] at ho
    exact ⟨_, rfl, ho⟩
theorem f117_c (m : Md Tryz.prog B) (h : Hp) (x lo hi : Int) : FnC m 117 #[.int .i64 x, .int .i64 lo, .int .i64 hi] h fun v h' => h' = h ∧ IsB (lo ≤ x ∧ x ≤ hi) v := by
  refine fn_enter Tryz.func117 rfl rfl (l := [.int .i64 x, .int .i64 lo, .int .i64 hi, undef, undef, undef, undef, undef, undef, undef, undef, undef, undef, undef, undef]) rfl ?_
  intro cf cs K hK
  refine run_seq ?_
  refine rr1 (by kernel_rfl) (by kernel_rfl) ?_
  refine k_as rfl zt ?_
  refine k_nil ?_
  refine run_seq ?_
  refine rr9 (by kernel_rfl) (by kernel_rfl) ?_
  refine k_mv rfl zt ?_
  refine k_mv rfl zt ?_
  refine k_leqS rfl zt (fun hc => ?_) (fun hc => ?_)
  · refine k_mv rfl zt ?_
    refine k_mv rfl rfl ?_
    refine k_mv rfl rfl ?_
    refine k_leqS rfl rfl (fun hc => ?_) (fun hc => ?_)
    · refine k_pickT rfl zt ?_
      refine k_as rfl zt ?_
      refine k_nil ?_
      refine run_ret rfl ?_
      refine run_res (h) rfl Tryz.func117 rfl weakSub ?_
      refine hK _ _ ?_
      first | exact ⟨rfl, IsB.yes (by omega)⟩ | exact ⟨rfl, IsB.no (by omega)⟩
    · refine k_pickT rfl zt ?_
      refine k_as rfl zt ?_
      refine k_nil ?_
      refine run_ret rfl ?_
      refine run_res (h) rfl Tryz.func117 rfl weakSub ?_
      refine hK _ _ ?_
      first | exact ⟨rfl, IsB.yes (by omega)⟩ | exact ⟨rfl, IsB.no (by omega)⟩
  · refine k_mv rfl zt ?_
    refine k_off rfl rfl ?_
    refine k_off rfl rfl ?_
    refine k_off rfl rfl ?_
    refine k_pickF rfl zt ?_
    refine k_as rfl zt ?_
    refine k_nil ?_
    refine run_ret rfl ?_
    refine run_res (h) rfl Tryz.func117 rfl weakSub ?_
    refine hK _ _ ?_
    first | exact ⟨rfl, IsB.yes (by omega)⟩ | exact ⟨rfl, IsB.no (by omega)⟩
theorem f72_c (m : Md Tryz.prog B) (h : Hp) (x lo hi : Int) : FnC m 72 #[.int .i64 x, .int .i64 lo, .int .i64 hi] h fun v h' => h' = h ∧ IsB (lo ≤ x ∧ x ≤ hi) v := by
  refine fn_enter Tryz.func72 rfl rfl (l := [.int .i64 x, .int .i64 lo, .int .i64 hi, undef, undef, undef, undef, undef, undef, undef, undef, undef, undef, undef, undef]) rfl ?_
  intro cf cs K hK
  refine run_seq ?_
  refine rr1 (by kernel_rfl) (by kernel_rfl) ?_
  refine k_as rfl zt ?_
  refine k_nil ?_
  refine run_seq ?_
  refine rr9 (by kernel_rfl) (by kernel_rfl) ?_
  refine k_mv rfl zt ?_
  refine k_mv rfl zt ?_
  refine k_leqS rfl zt (fun hc => ?_) (fun hc => ?_)
  · refine k_mv rfl zt ?_
    refine k_mv rfl rfl ?_
    refine k_mv rfl rfl ?_
    refine k_leqS rfl rfl (fun hc => ?_) (fun hc => ?_)
    · refine k_pickT rfl zt ?_
      refine k_as rfl zt ?_
      refine k_nil ?_
      refine run_ret rfl ?_
      refine run_res (h) rfl Tryz.func72 rfl weakSub ?_
      refine hK _ _ ?_
      first | exact ⟨rfl, IsB.yes (by omega)⟩ | exact ⟨rfl, IsB.no (by omega)⟩
    · refine k_pickT rfl zt ?_
      refine k_as rfl zt ?_
      refine k_nil ?_
      refine run_ret rfl ?_
      refine run_res (h) rfl Tryz.func72 rfl weakSub ?_
      refine hK _ _ ?_
      first | exact ⟨rfl, IsB.yes (by omega)⟩ | exact ⟨rfl, IsB.no (by omega)⟩
  · refine k_mv rfl zt ?_
    refine k_off rfl rfl ?_
    refine k_off rfl rfl ?_
    refine k_off rfl rfl ?_
    refine k_pickF rfl zt ?_
    refine k_as rfl zt ?_
    refine k_nil ?_
    refine run_ret rfl ?_
    refine run_res (h) rfl Tryz.func72 rfl weakSub ?_
    refine hK _ _ ?_
    first | exact ⟨rfl, IsB.yes (by omega)⟩ | exact ⟨rfl, IsB.no (by omega)⟩
theorem f132_c (m : Md Tryz.prog B) (h : Hp) (a b lo hi : Int) : FnC m 132 #[.agg [.int .i64 a, .int .i64 b].toArray, .int .i64 lo, .int .i64 hi] h fun v h' => h' = h ∧ IsB (lo ≤ a ∧ a ≤ b ∧ b ≤ hi) v := by
  refine fn_enter Tryz.func132 rfl rfl (l := [.agg [.int .i64 a, .int .i64 b].toArray, .int .i64 lo, .int .i64 hi, undef, undef, undef, undef, undef, undef, undef, undef, undef, undef, undef, undef, undef, undef, undef, undef, undef, undef, undef, undef, undef]) rfl ?_
  intro cf cs K hK
  refine run_seq ?_
  refine rr2 (by kernel_rfl) (by kernel_rfl) ?_
  refine k_box rfl zt (fun q3 => k_hp (k_put ?_))
  refine k_as rfl zt ?_
  refine k_nil ?_
  refine run_seq ?_
  refine rr18 (by kernel_rfl) (by kernel_rfl) ?_
  refine k_mv rfl zt ?_
  first | refine k_fa0 rfl zt ?_ | refine k_fa rfl zt ?_
  refine k_ldh rfl zt ?_
  refine k_leqS rfl zt (fun hc => ?_) (fun hc => ?_)
  · refine k_mv rfl zt ?_
    first | refine k_fa0 rfl rfl ?_ | refine k_fa rfl rfl ?_
    refine k_ldh rfl rfl ?_
    first | refine k_fa0 rfl rfl ?_ | refine k_fa rfl rfl ?_
    refine k_ldh rfl rfl ?_
    refine k_leqS rfl rfl (fun hc => ?_) (fun hc => ?_)
    · refine k_pickT rfl zt ?_
      refine k_mv rfl zt ?_
      first | refine k_fa0 rfl rfl ?_ | refine k_fa rfl rfl ?_
      refine k_ldh rfl rfl ?_
      refine k_mv rfl rfl ?_
      refine k_leqS rfl rfl (fun hc => ?_) (fun hc => ?_)
      · refine k_pickT rfl zt ?_
        refine k_as rfl zt ?_
        refine k_nil ?_
        refine run_ret rfl ?_
        refine run_res (h) rfl Tryz.func132 rfl weakSub ?_
        refine hK _ _ ?_
        first | exact ⟨rfl, IsB.yes (by omega)⟩ | exact ⟨rfl, IsB.no (by omega)⟩
      · refine k_pickT rfl zt ?_
        refine k_as rfl zt ?_
        refine k_nil ?_
        refine run_ret rfl ?_
        refine run_res (h) rfl Tryz.func132 rfl weakSub ?_
        refine hK _ _ ?_
        first | exact ⟨rfl, IsB.yes (by omega)⟩ | exact ⟨rfl, IsB.no (by omega)⟩
    · refine k_pickT rfl zt ?_
      refine k_mv rfl zt ?_
      refine k_off rfl rfl ?_
      refine k_off rfl rfl ?_
      refine k_off rfl rfl ?_
      refine k_off rfl rfl ?_
      refine k_pickF rfl zt ?_
      refine k_as rfl zt ?_
      refine k_nil ?_
      refine run_ret rfl ?_
      refine run_res (h) rfl Tryz.func132 rfl weakSub ?_
      refine hK _ _ ?_
      first | exact ⟨rfl, IsB.yes (by omega)⟩ | exact ⟨rfl, IsB.no (by omega)⟩
  · refine k_mv rfl zt ?_
    refine k_off rfl rfl ?_
    refine k_off rfl rfl ?_
    refine k_off rfl rfl ?_
    refine k_off rfl rfl ?_
    refine k_off rfl rfl ?_
    refine k_pickF rfl zt ?_
    refine k_mv rfl zt ?_
    refine k_off rfl rfl ?_
    refine k_off rfl rfl ?_
    refine k_off rfl rfl ?_
    refine k_off rfl rfl ?_
    refine k_pickF rfl zt ?_
    refine k_as rfl zt ?_
    refine k_nil ?_
    refine run_ret rfl ?_
    refine run_res (h) rfl Tryz.func132 rfl weakSub ?_
    refine hK _ _ ?_
    first | exact ⟨rfl, IsB.yes (by omega)⟩ | exact ⟨rfl, IsB.no (by omega)⟩
theorem f140_c (m : Md Tryz.prog B) (h : Hp) (a b lo hi n : Int) (h0 : -10000 ≤ lo) (h1 : hi ≤ 10000) : FnC m 140 #[.agg [.int .i64 a, .int .i64 b].toArray, .int .i64 lo, .int .i64 hi, .int .i64 n] h fun v h' => h' = h ∧ IsB (lo ≤ a ∧ a ≤ b ∧ b ≤ hi ∧ b - a < n) v := by
  refine fn_enter Tryz.func140 rfl rfl (l := [.agg [.int .i64 a, .int .i64 b].toArray, .int .i64 lo, .int .i64 hi, .int .i64 n, undef, undef, undef, undef, undef, undef, undef, undef, undef, undef, undef, undef, undef, undef, undef, undef, undef, undef, undef, undef, undef, undef, undef, undef, undef, undef, undef, undef, undef, undef, undef]) rfl ?_
  intro cf cs K hK
  refine run_seq ?_
  refine rr2 (by kernel_rfl) (by kernel_rfl) ?_
  refine k_box rfl zt (fun q4 => k_hp (k_put ?_))
  refine k_as rfl zt ?_
  refine k_nil ?_
  refine run_seq ?_
  refine rr27 (by kernel_rfl) (by kernel_rfl) ?_
  refine k_mv rfl zt ?_
  first | refine k_fa0 rfl zt ?_ | refine k_fa rfl zt ?_
  refine k_ldh rfl zt ?_
  refine k_leqS rfl zt (fun hc => ?_) (fun hc => ?_)
  · refine k_mv rfl zt ?_
    first | refine k_fa0 rfl rfl ?_ | refine k_fa rfl rfl ?_
    refine k_ldh rfl rfl ?_
    first | refine k_fa0 rfl rfl ?_ | refine k_fa rfl rfl ?_
    refine k_ldh rfl rfl ?_
    refine k_leqS rfl rfl (fun hc => ?_) (fun hc => ?_)
    · refine k_pickT rfl zt ?_
      refine k_mv rfl zt ?_
      first | refine k_fa0 rfl rfl ?_ | refine k_fa rfl rfl ?_
      refine k_ldh rfl rfl ?_
      refine k_mv rfl rfl ?_
      refine k_leqS rfl rfl (fun hc => ?_) (fun hc => ?_)
      · refine k_pickT rfl zt ?_
        refine k_mv rfl zt ?_
        first | refine k_fa0 rfl rfl ?_ | refine k_fa rfl rfl ?_
        refine k_ldh rfl rfl ?_
        first | refine k_fa0 rfl rfl ?_ | refine k_fa rfl rfl ?_
        refine k_ldh rfl rfl ?_
        refine k_sub rfl rfl (by unfold In64; omega) ?_
        refine k_mv rfl rfl ?_
        refine k_lssS rfl rfl (fun hc => ?_) (fun hc => ?_)
        · refine k_pickT rfl zt ?_
          refine k_as rfl zt ?_
          refine k_nil ?_
          refine run_ret rfl ?_
          refine run_res (h) rfl Tryz.func140 rfl weakSub ?_
          refine hK _ _ ?_
          first | exact ⟨rfl, IsB.yes (by omega)⟩ | exact ⟨rfl, IsB.no (by omega)⟩
        · refine k_pickT rfl zt ?_
          refine k_as rfl zt ?_
          refine k_nil ?_
          refine run_ret rfl ?_
          refine run_res (h) rfl Tryz.func140 rfl weakSub ?_
          refine hK _ _ ?_
          first | exact ⟨rfl, IsB.yes (by omega)⟩ | exact ⟨rfl, IsB.no (by omega)⟩
      · refine k_pickT rfl zt ?_
        refine k_mv rfl zt ?_
        refine k_off rfl rfl ?_
        refine k_off rfl rfl ?_
        refine k_off rfl rfl ?_
        refine k_off rfl rfl ?_
        refine k_off rfl rfl ?_
        refine k_off rfl rfl ?_
        refine k_off rfl rfl ?_
        refine k_pickF rfl zt ?_
        refine k_as rfl zt ?_
        refine k_nil ?_
        refine run_ret rfl ?_
        refine run_res (h) rfl Tryz.func140 rfl weakSub ?_
        refine hK _ _ ?_
        first | exact ⟨rfl, IsB.yes (by omega)⟩ | exact ⟨rfl, IsB.no (by omega)⟩
    · refine k_pickT rfl zt ?_
      refine k_mv rfl zt ?_
      refine k_off rfl rfl ?_
      refine k_off rfl rfl ?_
      refine k_off rfl rfl ?_
      refine k_off rfl rfl ?_
      refine k_pickF rfl zt ?_
      refine k_mv rfl zt ?_
      refine k_off rfl rfl ?_
      refine k_off rfl rfl ?_
      refine k_off rfl rfl ?_
      refine k_off rfl rfl ?_
      refine k_off rfl rfl ?_
      refine k_off rfl rfl ?_
      refine k_off rfl rfl ?_
      refine k_pickF rfl zt ?_
      refine k_as rfl zt ?_
      refine k_nil ?_
      refine run_ret rfl ?_
      refine run_res (h) rfl Tryz.func140 rfl weakSub ?_
      refine hK _ _ ?_
      first | exact ⟨rfl, IsB.yes (by omega)⟩ | exact ⟨rfl, IsB.no (by omega)⟩
  · refine k_mv rfl zt ?_
    refine k_off rfl rfl ?_
    refine k_off rfl rfl ?_
    refine k_off rfl rfl ?_
    refine k_off rfl rfl ?_
    refine k_off rfl rfl ?_
    refine k_pickF rfl zt ?_
    refine k_mv rfl zt ?_
    refine k_off rfl rfl ?_
    refine k_off rfl rfl ?_
    refine k_off rfl rfl ?_
    refine k_off rfl rfl ?_
    refine k_pickF rfl zt ?_
    refine k_mv rfl zt ?_
    refine k_off rfl rfl ?_
    refine k_off rfl rfl ?_
    refine k_off rfl rfl ?_
    refine k_off rfl rfl ?_
    refine k_off rfl rfl ?_
    refine k_off rfl rfl ?_
    refine k_off rfl rfl ?_
    refine k_pickF rfl zt ?_
    refine k_as rfl zt ?_
    refine k_nil ?_
    refine run_ret rfl ?_
    refine run_res (h) rfl Tryz.func140 rfl weakSub ?_
    refine hK _ _ ?_
    first | exact ⟨rfl, IsB.yes (by omega)⟩ | exact ⟨rfl, IsB.no (by omega)⟩
theorem f136_c (m : Md Tryz.prog B) (h : Hp) (a b c d : Int) : FnC m 136 #[.agg [.int .i64 a, .int .i64 b].toArray, .agg [.int .i64 c, .int .i64 d].toArray] h fun v h' => h' = h ∧ v = .tuple [.agg [.int .i64 (max a c), .int .i64 (min b d)].toArray, .bool (decide (max a c ≤ min b d))].toArray := by
  refine fn_enter Tryz.func136 rfl rfl (l := [.agg [.int .i64 a, .int .i64 b].toArray, .agg [.int .i64 c, .int .i64 d].toArray, undef, undef, undef, undef, undef, undef, undef, undef, undef, undef, undef, undef, undef, undef, undef, undef, undef, undef, undef, undef, undef, undef]) rfl ?_
  intro cf cs K hK
  refine run_seq ?_
  refine rr4 (by kernel_rfl) (by kernel_rfl) ?_
  refine k_box rfl zt (fun q2 => k_hp (k_put ?_))
  refine k_box rfl zt (fun q3 => k_hp (k_put ?_))
  refine k_new rfl zt (fun q4 => k_hp (k_put ?_))
  refine k_as rfl zt ?_
  refine k_nil ?_
  refine run_seq ?_
  refine rr13 (by kernel_rfl) (by kernel_rfl) ?_
  first | refine k_fa0 rfl zt ?_ | refine k_fa rfl zt ?_
  refine k_ldh rfl zt ?_
  first | refine k_fa0 rfl zt ?_ | refine k_fa rfl zt ?_
  refine k_ldh rfl zt ?_
  refine k_max rfl zt ?_
  first | refine k_fa0 rfl zt ?_ | refine k_fa rfl zt ?_
  refine k_ldh rfl zt ?_
  first | refine k_fa0 rfl zt ?_ | refine k_fa rfl zt ?_
  refine k_ldh rfl zt ?_
  refine k_min rfl zt ?_
  refine k_bld rfl zt ?_
  refine k_new rfl zt (fun q6 => k_hp (k_put ?_))
  refine k_stA rfl zt rfl ?_
  refine k_nil ?_
  refine run_seq ?_
  refine run_draw (S := h ++ [⟨true, q6, .cells [.int .i64 (max a c), .int .i64 (min b d)].toArray 92 (0, 0)⟩]) [(1, .pure), (3, .pure), (0, .read), (2, .read), (4, .read), (5, .pure), (6, .keep), (7, .pure)] (by kernel_rfl) (by kernel_rfl) SubH.sub ?_
  first | refine k_fa0 rfl zt ?_ | refine k_fa rfl zt ?_
  first | refine k_fa0 rfl zt ?_ | refine k_fa rfl zt ?_
  refine k_ldA rfl zt ?_
  refine k_ldh rfl zt ?_
  refine k_ldh rfl zt ?_
  refine k_leq rfl zt ?_
  refine k_stA rfl zt rfl ?_
  refine k_as rfl zt ?_
  refine k_nil ?_
  refine run_ret rfl ?_
  refine run_res (h) rfl Tryz.func136 rfl weakSub ?_
  refine hK _ _ ?_
  exact ⟨rfl, rfl⟩
theorem f118_c (m : Md Tryz.prog B) (h : Hp) (x y z : Int) (p : Option Addr) (n c : Nat) (q : Option Addr) (k e : Nat) : FnC m 118 #[bookV x y z (.slice p n c) (.slice q k e)] h fun v h' => h' = h ∧ v = .int .i64 n := by
  refine fn_enter Tryz.func118 rfl rfl (l := [bookV x y z (.slice p n c) (.slice q k e), undef, undef, undef, undef, undef, undef]) rfl ?_
  intro cf cs K hK
  refine run_seq ?_
  refine rr2 (by kernel_rfl) (by kernel_rfl) ?_
  refine k_box rfl zt (fun q1 => k_hp (k_put ?_))
  refine k_as rfl zt ?_
  refine k_nil ?_
  refine run_seq ?_
  refine rr5 (by kernel_rfl) (by kernel_rfl) ?_
  first | refine k_fa0 rfl zt ?_ | refine k_fa rfl zt ?_
  first | refine k_fa0 rfl zt ?_ | refine k_fa rfl zt ?_
  refine k_ldh rfl zt ?_
  refine k_len rfl zt ?_
  refine k_as rfl zt ?_
  refine k_nil ?_
  refine run_ret rfl ?_
  refine run_res (h) rfl Tryz.func118 rfl weakSub ?_
  refine hK _ _ ?_
  exact ⟨rfl, rfl⟩
theorem f114_c (m : Md Tryz.prog B) (h : Hp) (x y z : Int) (p : Option Addr) (n c : Nat) (q : Option Addr) (k e : Nat) (i : Int) (hn : n ≤ 1000) : FnC m 114 #[bookV x y z (.slice p n c) (.slice q k e), .int .i64 i] h fun v h' => h' = h ∧ IsB (0 ≤ i ∧ i ≤ n - 1) v := by
  refine fn_enter Tryz.func114 rfl rfl (l := [bookV x y z (.slice p n c) (.slice q k e), .int .i64 i, undef, undef, undef, undef, undef, undef, undef, undef, undef]) rfl ?_
  intro cf cs K hK
  refine run_seq ?_
  refine rr2 (by kernel_rfl) (by kernel_rfl) ?_
  refine k_box rfl zt (fun q2 => k_hp (k_put ?_))
  refine k_as rfl zt ?_
  refine k_nil ?_
  refine run_seq ?_
  refine rr7 (by kernel_rfl) (by kernel_rfl) ?_
  refine k_mv rfl zt ?_
  first | refine k_fa0 rfl zt ?_ | refine k_fa rfl zt ?_
  refine k_ldh rfl zt ?_
  refine k_len rfl zt ?_
  refine k_sub rfl zt (by unfold In64; omega) ?_
  refine k_calP (Post := fun v => IsB _ v) rfl zt (by kernel_rfl) (fun H' hH => f72_c m _ _ _ _) ?_
  rintro v (⟨hc, rfl⟩ | ⟨hc, rfl⟩)
  · refine k_put ?_
    refine k_as rfl zt ?_
    refine k_nil ?_
    refine run_ret rfl ?_
    refine run_res (h) rfl Tryz.func114 rfl weakSub ?_
    refine hK _ _ ?_
    first | exact ⟨rfl, IsB.yes (by omega)⟩ | exact ⟨rfl, IsB.no (by omega)⟩
  · refine k_put ?_
    refine k_as rfl zt ?_
    refine k_nil ?_
    refine run_ret rfl ?_
    refine run_res (h) rfl Tryz.func114 rfl weakSub ?_
    refine hK _ _ ?_
    first | exact ⟨rfl, IsB.yes (by omega)⟩ | exact ⟨rfl, IsB.no (by omega)⟩
theorem f109_c (m : Md Tryz.prog B) (h : Hp) (x y z : Int) (p : Option Addr) (n c : Nat) (q : Option Addr) (k e : Nat) (i : Int) (hn : n ≤ 1000) : FnC m 109 #[bookV x y z (.slice p n c) (.slice q k e), .int .i64 i] h fun v h' => h' = h ∧ v = .int .i64 (if 0 ≤ i ∧ i ≤ n - 1 then 0 else 6) := by
  refine fn_enter Tryz.func109 rfl rfl (l := [bookV x y z (.slice p n c) (.slice q k e), .int .i64 i, undef, undef, undef, undef, undef, undef, undef, undef, undef]) rfl ?_
  intro cf cs K hK
  refine run_seq ?_
  refine rr2 (by kernel_rfl) (by kernel_rfl) ?_
  refine k_box rfl zt (fun q2 => k_hp (k_put ?_))
  refine k_as rfl zt ?_
  refine k_nil ?_
  refine run_seq ?_
  refine run_seq ?_
  refine rr6 (by kernel_rfl) (by kernel_rfl) ?_
  refine k_mv rfl zt ?_
  refine k_ldA rfl zt ?_
  refine k_calP (Post := fun v => v = _) rfl zt (by kernel_rfl) (fun H' hH => f118_c m _ _ _ _ _ _ _ _ _ _) ?_
  rintro v rfl
  refine k_put ?_
  refine k_sub rfl zt (by unfold In64; omega) ?_
  refine k_calP (Post := fun v => IsB _ v) rfl zt (by kernel_rfl) (fun H' hH => f117_c m _ _ _ _) ?_
  rintro v (⟨hc, rfl⟩ | ⟨hc, rfl⟩)
  · refine k_put ?_
    refine k_notT rfl zt ?_
    refine k_nil ?_
    refine run_no ?_
    refine run_skip ?_
    refine run_seq ?_
    refine rr1 (by kernel_rfl) (by kernel_rfl) ?_
    refine k_as rfl zt ?_
    refine k_nil ?_
    refine run_ret rfl ?_
    refine run_res (h) rfl Tryz.func109 rfl weakSub ?_
    refine hK _ _ ?_
    first | exact ⟨rfl, by rw [if_pos (by assumption)]⟩ | exact ⟨rfl, by rw [if_neg (by assumption)]⟩
  · refine k_put ?_
    refine k_notF rfl zt ?_
    refine k_nil ?_
    refine run_yes ?_
    refine run_seq ?_
    refine rr1 (by kernel_rfl) (by kernel_rfl) ?_
    refine k_as rfl zt ?_
    refine k_nil ?_
    refine run_ret rfl ?_
    refine run_res (h) rfl Tryz.func109 rfl weakSub ?_
    refine hK _ _ ?_
    first | exact ⟨rfl, by rw [if_pos (by assumption)]⟩ | exact ⟨rfl, by rw [if_neg (by assumption)]⟩
end Go.Proofs
namespace Go.Proofs
open Go.Lo
open Go.Conc (G)
set_option maxRecDepth 100000
set_option synthInstance.maxSize 100000
set_option synthInstance.maxHeartbeats 1000000
set_option maxHeartbeats 4000000
variable {B : Array Obj}
theorem getD_drop (xs : List Int) (k : Nat) (h : k < xs.length) : xs.drop k = xs.getD k 0 :: xs.drop (k + 1) := by
  rw [List.drop_eq_getElem_cons h, List.getD_eq_getElem?_getD, List.getElem?_eq_getElem h]; rfl
theorem ext_getD {xs ys : List Int} (hl : xs.length = ys.length) (he : ∀ i, i < xs.length → xs.getD i 0 = ys.getD i 0) : xs = ys := by
  apply List.ext_getElem hl
  intro i h1 h2
  have := he i h1
  rw [List.getD_eq_getElem?_getD, List.getElem?_eq_getElem h1, List.getD_eq_getElem?_getD, List.getElem?_eq_getElem h2] at this
  exact this
theorem mem_getD {xs : List Int} {x : Int} : x ∈ xs ↔ ∃ i, i < xs.length ∧ xs.getD i 0 = x := by
  rw [List.mem_iff_getElem]
  constructor
  · rintro ⟨i, h, e⟩
    exact ⟨i, h, by rw [List.getD_eq_getElem?_getD, List.getElem?_eq_getElem h]; exact e⟩
  · rintro ⟨i, h, e⟩
    exact ⟨i, h, by rw [List.getD_eq_getElem?_getD, List.getElem?_eq_getElem h] at e; exact e⟩
def before : List Int → List Int → Bool
  | a :: r, b :: s => if a = b then before r s else decide (a < b)
  | [], _ :: _ => true
  | _, [] => false
def fewer (xs ys : List Int) : Prop := xs.length < ys.length ∨ (xs.length = ys.length ∧ before xs ys = true)
instance (xs ys : List Int) : Decidable (fewer xs ys) := by unfold fewer; infer_instance
def rising (many : Int) : Int → List Int → Int
  | _, [] => 0
  | prev, a :: r => if ¬ (0 ≤ a ∧ a ≤ many - 1) then 6 else if a ≤ prev then 7 else rising many a r
def firsts (n : Nat) : List Int := (List.range n).map fun i : Nat => (i : Int)
theorem firsts_succ (n : Nat) : firsts (n + 1) = firsts n ++ [(n : Int)] := by simp [firsts, List.range_succ]
theorem firsts_length (n : Nat) : (firsts n).length = n := by simp [firsts]
theorem f31_c (m : Md Tryz.prog B) (h : Hp) {p p2 : Option Addr} {n c n2 c2 : Nat} {xs ys : List Int} (rd : RdS B h 1 (.slice p n c) n (ints xs)) (hn : n ≤ 1000000) (rd2 : RdS B h 1 (.slice p2 n2 c2) n2 (ints ys)) : FnC m 31 #[.slice p n c, .slice p2 n2 c2] h fun v h' => h' = h ∧ IsB (xs = ys) v := by
  have hl := rd.ilen
  have hl2 := rd2.ilen
  refine fn_enter Tryz.func31 rfl rfl (l := [.slice p n c, .slice p2 n2 c2, undef, undef, undef, undef, undef, undef, undef, undef, undef, undef, undef, undef, undef, undef, undef, undef, undef, undef, undef, undef, undef, undef, undef, undef]) rfl ?_
  intro cf cs K hK
  refine run_seq ?_
  refine rr1 (by kernel_rfl) (by kernel_rfl) ?_
  refine k_as rfl zt ?_
  refine k_nil ?_
  refine run_seq ?_
  refine run_seq ?_
  refine rr5 (by kernel_rfl) (by kernel_rfl) ?_
  refine k_mv rfl zt ?_
  refine k_len rfl zt ?_
  refine k_mv rfl zt ?_
  refine k_len rfl zt ?_
  refine k_neqS rfl zt (fun hc => ?_) (fun hc => ?_)
  · refine k_nil ?_
    refine run_yes ?_
    refine run_seq ?_
    refine rr1 (by kernel_rfl) (by kernel_rfl) ?_
    refine k_as rfl zt ?_
    refine k_nil ?_
    refine run_ret rfl ?_
    refine run_res (h) rfl Tryz.func31 rfl weakSub ?_
    refine hK _ _ ?_
    exact ⟨rfl, IsB.no fun e => by subst e; omega⟩
  · refine k_nil ?_
    refine run_no ?_
    refine run_skip ?_
    refine run_seq ?_
    refine run_seq ?_
    refine rr1 (by kernel_rfl) (by kernel_rfl) ?_
    refine k_as rfl zt ?_
    refine k_nil ?_
    refine run_block ?_
    refine run_loop (fun nn l h' => ∃ (k : Nat), nn = n - k ∧ (k ≤ n) ∧ (∀ i, i < k → xs.getD i 0 = ys.getD i 0) ∧ (∃ U : Nat → Value, l = [.slice p n c, .slice p2 n2 c2, U 2, U 3, U 4, .int .i64 (k : Int), U 6, U 7, U 8, U 9, U 10, U 11, U 12, U 13, U 14, U 15, U 16, U 17, U 18, U 19, U 20, U 21, U 22, U 23, U 24, U 25]) ∧ h = h') _ ⟨0, rfl, by omega, by omega, exU rfl, rfl⟩ ?_
    rintro nn l h' ⟨k, rfl, hk, he, ⟨U, rfl⟩, rfl⟩ hnext
    refine run_seq ?_
    refine run_seq ?_
    refine rr4 (by kernel_rfl) (by kernel_rfl) ?_
    refine k_mv rfl zt ?_
    refine k_mv rfl zt ?_
    refine k_len rfl zt ?_
    refine k_lssS rfl zt (fun hc => ?_) (fun hc => ?_)
    · refine k_nil ?_
      refine run_yes ?_
      refine run_skip ?_
      refine run_seq ?_
      refine run_block ?_
      refine run_seq ?_
      refine run_draw [(0, .pure), (1, .pure), (2, .pure), (4, .pure), (5, .pure), (6, .pure), (3, .read), (7, .read), (8, .pure)] (by kernel_rfl) (by kernel_rfl) (List.Sublist.refl _) ?_
      refine k_mv rfl zt ?_
      refine k_mv rfl zt ?_
      obtain ⟨rd_b, rd_o, rfl⟩ := rd.ptr (by omega)
      refine k_ixs rfl zt (by first | rfl | assumption) (by omega) (by omega) ?_
      refine k_mv rfl zt ?_
      refine k_mv rfl zt ?_
      obtain ⟨rd2_b, rd2_o, rfl⟩ := rd2.ptr (by omega)
      refine k_ixs rfl zt (by first | rfl | assumption) (by omega) (by omega) ?_
      refine k_ld rfl zt (rd.iat k (by omega) (by omega)) ?_
      refine k_ld rfl zt (rd2.iat k (by omega) (by omega)) ?_
      refine k_neqS rfl zt (fun hc => ?_) (fun hc => ?_)
      · refine k_nil ?_
        refine run_yes ?_
        refine run_seq ?_
        refine rr1 (by kernel_rfl) (by kernel_rfl) ?_
        refine k_as rfl zt ?_
        refine k_nil ?_
        refine run_ret rfl ?_
        refine run_res (h) rfl Tryz.func31 rfl weakSub ?_
        refine hK _ _ ?_
        exact ⟨rfl, IsB.no fun e => by subst e; contradiction⟩
      · refine k_nil ?_
        refine run_no ?_
        refine run_skip ?_
        refine run_inBlock ?_
        refine rr3 (by kernel_rfl) (by kernel_rfl) ?_
        refine k_mv rfl zt ?_
        refine k_add rfl zt (by unfold In64; omega) ?_
        refine k_as rfl zt ?_
        refine k_nil ?_
        exact m.weak weakSub (hnext _ _ _ (by omega) ⟨k + 1, rfl, by omega, fun i hi => by
          rcases Nat.lt_or_ge i k with h1 | h1
          · exact he i h1
          · obtain rfl : i = k := by omega
            assumption, exU rfl, rfl⟩)
    · refine k_nil ?_
      refine run_no ?_
      refine run_exit rfl ?_
      refine run_seq ?_
      refine rr1 (by kernel_rfl) (by kernel_rfl) ?_
      refine k_as rfl zt ?_
      refine k_nil ?_
      refine run_ret rfl ?_
      refine run_res (h) rfl Tryz.func31 rfl weakSub ?_
      refine hK _ _ ?_
      exact ⟨rfl, IsB.yes (ext_getD (by omega) fun i hi => he i (by omega))⟩
theorem f52_c (m : Md Tryz.prog B) (h : Hp) {p : Option Addr} {n c : Nat} {xs : List Int} (x : Int) (rd : RdS B h 1 (.slice p n c) n (ints xs)) (hn : n ≤ 1000000) : FnC m 52 #[.slice p n c, .int .i64 x] h fun v h' => h' = h ∧ IsB (x ∈ xs) v := by
  have hl := rd.ilen
  refine fn_enter Tryz.func52 rfl rfl (l := [.slice p n c, .int .i64 x, undef, undef, undef, undef, undef, undef, undef, undef, undef, undef, undef, undef, undef, undef, undef, undef]) rfl ?_
  intro cf cs K hK
  refine run_seq ?_
  refine rr1 (by kernel_rfl) (by kernel_rfl) ?_
  refine k_as rfl zt ?_
  refine k_nil ?_
  refine run_seq ?_
  refine run_seq ?_
  refine rr1 (by kernel_rfl) (by kernel_rfl) ?_
  refine k_as rfl zt ?_
  refine k_nil ?_
  refine run_block ?_
  refine run_loop (fun nn l h' => ∃ (k : Nat), nn = n - k ∧ (k ≤ n) ∧ (∀ i, i < k → xs.getD i 0 ≠ x) ∧ (∃ U : Nat → Value, l = [.slice p n c, .int .i64 x, U 2, U 3, U 4, .int .i64 (k : Int), U 6, U 7, U 8, U 9, U 10, U 11, U 12, U 13, U 14, U 15, U 16, U 17]) ∧ h = h') _ ⟨0, rfl, by omega, by omega, exU rfl, rfl⟩ ?_
  rintro nn l h' ⟨k, rfl, hk, he, ⟨U, rfl⟩, rfl⟩ hnext
  refine run_seq ?_
  refine run_seq ?_
  refine rr4 (by kernel_rfl) (by kernel_rfl) ?_
  refine k_mv rfl zt ?_
  refine k_mv rfl zt ?_
  refine k_len rfl zt ?_
  refine k_lssS rfl zt (fun hc => ?_) (fun hc => ?_)
  · refine k_nil ?_
    refine run_yes ?_
    refine run_skip ?_
    refine run_seq ?_
    refine run_block ?_
    refine run_seq ?_
    refine rr6 (by kernel_rfl) (by kernel_rfl) ?_
    refine k_mv rfl zt ?_
    refine k_mv rfl zt ?_
    obtain ⟨rd_b, rd_o, rfl⟩ := rd.ptr (by omega)
    refine k_ixs rfl zt (by first | rfl | assumption) (by omega) (by omega) ?_
    refine k_ld rfl zt (rd.iat k (by omega) (by omega)) ?_
    refine k_mv rfl zt ?_
    refine k_eqlS rfl zt (fun hc => ?_) (fun hc => ?_)
    · refine k_nil ?_
      refine run_yes ?_
      refine run_seq ?_
      refine rr1 (by kernel_rfl) (by kernel_rfl) ?_
      refine k_as rfl zt ?_
      refine k_nil ?_
      refine run_ret rfl ?_
      refine run_res (h) rfl Tryz.func52 rfl weakSub ?_
      refine hK _ _ ?_
      exact ⟨rfl, IsB.yes (mem_getD.2 ⟨k, by omega, by assumption⟩)⟩
    · refine k_nil ?_
      refine run_no ?_
      refine run_skip ?_
      refine run_inBlock ?_
      refine rr3 (by kernel_rfl) (by kernel_rfl) ?_
      refine k_mv rfl zt ?_
      refine k_add rfl zt (by unfold In64; omega) ?_
      refine k_as rfl zt ?_
      refine k_nil ?_
      exact m.weak weakSub (hnext _ _ _ (by omega) ⟨k + 1, rfl, by omega, fun i hi => by
        rcases Nat.lt_or_ge i k with h1 | h1
        · exact he i h1
        · obtain rfl : i = k := by omega
          assumption, exU rfl, rfl⟩)
  · refine k_nil ?_
    refine run_no ?_
    refine run_exit rfl ?_
    refine run_seq ?_
    refine rr1 (by kernel_rfl) (by kernel_rfl) ?_
    refine k_as rfl zt ?_
    refine k_nil ?_
    refine run_ret rfl ?_
    refine run_res (h) rfl Tryz.func52 rfl weakSub ?_
    refine hK _ _ ?_
    exact ⟨rfl, IsB.no fun e => by
      obtain ⟨i, h1, h2⟩ := mem_getD.1 e
      exact he i (by omega) h2⟩
theorem f57_c (m : Md Tryz.prog B) (h : Hp) {p p2 : Option Addr} {n c n2 c2 : Nat} {xs ys : List Int} (rd : RdS B h 1 (.slice p n c) n (ints xs)) (hn : n ≤ 1000000) (rd2 : RdS B h 1 (.slice p2 n2 c2) n2 (ints ys)) : FnC m 57 #[.slice p n c, .slice p2 n2 c2] h fun v h' => h' = h ∧ IsB (before xs ys = true) v := by
  have hl := rd.ilen
  have hl2 := rd2.ilen
  refine fn_enter Tryz.func57 rfl rfl (l := [.slice p n c, .slice p2 n2 c2, undef, undef, undef, undef, undef, undef, undef, undef, undef, undef, undef, undef, undef, undef, undef, undef, undef, undef, undef, undef, undef, undef, undef, undef, undef, undef, undef, undef, undef, undef, undef, undef, undef, undef, undef, undef, undef, undef, undef]) rfl ?_
  intro cf cs K hK
  refine run_seq ?_
  refine rr1 (by kernel_rfl) (by kernel_rfl) ?_
  refine k_as rfl zt ?_
  refine k_nil ?_
  refine run_seq ?_
  refine run_seq ?_
  refine rr1 (by kernel_rfl) (by kernel_rfl) ?_
  refine k_as rfl zt ?_
  refine k_nil ?_
  refine run_block ?_
  refine run_loop (fun nn l h' => ∃ (k : Nat), nn = n - k ∧ (k ≤ n) ∧ (k ≤ n2) ∧ (before xs ys = before (xs.drop k) (ys.drop k)) ∧ (∃ U : Nat → Value, l = [.slice p n c, .slice p2 n2 c2, U 2, U 3, U 4, .int .i64 (k : Int), U 6, U 7, U 8, U 9, U 10, U 11, U 12, U 13, U 14, U 15, U 16, U 17, U 18, U 19, U 20, U 21, U 22, U 23, U 24, U 25, U 26, U 27, U 28, U 29, U 30, U 31, U 32, U 33, U 34, U 35, U 36, U 37, U 38, U 39, U 40]) ∧ h = h') _ ⟨0, rfl, by omega, by omega, rfl, exU rfl, rfl⟩ ?_
  rintro nn l h' ⟨k, rfl, hk, hk2, he, ⟨U, rfl⟩, rfl⟩ hnext
  refine run_seq ?_
  refine run_seq ?_
  refine rr10 (by kernel_rfl) (by kernel_rfl) ?_
  refine k_mv rfl zt ?_
  refine k_mv rfl zt ?_
  refine k_len rfl zt ?_
  refine k_lssS rfl zt (fun hc => ?_) (fun hc => ?_)
  · refine k_mv rfl zt ?_
    refine k_mv rfl rfl ?_
    refine k_mv rfl rfl ?_
    refine k_len rfl rfl ?_
    refine k_lssS rfl rfl (fun hc => ?_) (fun hc => ?_)
    · refine k_pickT rfl zt ?_
      refine k_nil ?_
      refine run_yes ?_
      refine run_skip ?_
      refine run_seq ?_
      refine run_block ?_
      refine run_seq ?_
      refine run_draw [(0, .pure), (1, .pure), (2, .pure), (4, .pure), (5, .pure), (6, .pure), (3, .read), (7, .read), (8, .pure)] (by kernel_rfl) (by kernel_rfl) (List.Sublist.refl _) ?_
      refine k_mv rfl zt ?_
      refine k_mv rfl zt ?_
      obtain ⟨rd_b, rd_o, rfl⟩ := rd.ptr (by omega)
      refine k_ixs rfl zt (by first | rfl | assumption) (by omega) (by omega) ?_
      refine k_mv rfl zt ?_
      refine k_mv rfl zt ?_
      obtain ⟨rd2_b, rd2_o, rfl⟩ := rd2.ptr (by omega)
      refine k_ixs rfl zt (by first | rfl | assumption) (by omega) (by omega) ?_
      refine k_ld rfl zt (rd.iat k (by omega) (by omega)) ?_
      refine k_ld rfl zt (rd2.iat k (by omega) (by omega)) ?_
      refine k_neqS rfl zt (fun hc => ?_) (fun hc => ?_)
      · refine k_nil ?_
        refine run_yes ?_
        refine run_seq ?_
        refine run_draw [(0, .pure), (1, .pure), (2, .pure), (4, .pure), (5, .pure), (6, .pure), (3, .read), (7, .read), (8, .pure), (9, .pure)] (by kernel_rfl) (by kernel_rfl) (List.Sublist.refl _) ?_
        refine k_mv rfl zt ?_
        refine k_mv rfl zt ?_
        refine k_ixs rfl zt (by first | rfl | assumption) (by omega) (by omega) ?_
        refine k_mv rfl zt ?_
        refine k_mv rfl zt ?_
        refine k_ixs rfl zt (by first | rfl | assumption) (by omega) (by omega) ?_
        refine k_ld rfl zt (rd.iat k (by omega) (by omega)) ?_
        refine k_ld rfl zt (rd2.iat k (by omega) (by omega)) ?_
        refine k_lssS rfl zt (fun hc => ?_) (fun hc => ?_)
        · refine k_as rfl zt ?_
          refine k_nil ?_
          refine run_ret rfl ?_
          refine run_res (h) rfl Tryz.func57 rfl weakSub ?_
          refine hK _ _ ?_
          exact ⟨rfl, IsB.yes (by rw [he, getD_drop xs k (by omega), getD_drop ys k (by omega), before, if_neg (by assumption)]; exact decide_eq_true (by assumption))⟩
        · refine k_as rfl zt ?_
          refine k_nil ?_
          refine run_ret rfl ?_
          refine run_res (h) rfl Tryz.func57 rfl weakSub ?_
          refine hK _ _ ?_
          exact ⟨rfl, IsB.no (by rw [he, getD_drop xs k (by omega), getD_drop ys k (by omega), before, if_neg (by assumption)]; rw [decide_eq_true_iff]; omega)⟩
      · refine k_nil ?_
        refine run_no ?_
        refine run_skip ?_
        refine run_inBlock ?_
        refine rr3 (by kernel_rfl) (by kernel_rfl) ?_
        refine k_mv rfl zt ?_
        refine k_add rfl zt (by unfold In64; omega) ?_
        refine k_as rfl zt ?_
        refine k_nil ?_
        exact m.weak weakSub (hnext _ _ _ (by omega) ⟨k + 1, rfl, by omega, by omega, by
          rw [he, getD_drop xs k (by omega), getD_drop ys k (by omega), before, if_pos (by assumption)], exU rfl, rfl⟩)
    · refine k_pickT rfl zt ?_
      refine k_nil ?_
      refine run_no ?_
      refine run_exit rfl ?_
      refine run_seq ?_
      refine rr6 (by kernel_rfl) (by kernel_rfl) ?_
      refine k_mv rfl zt ?_
      refine k_len rfl zt ?_
      refine k_mv rfl zt ?_
      refine k_len rfl zt ?_
      refine k_lssS rfl zt (fun hc => ?_) (fun hc => ?_)
      · refine k_as rfl zt ?_
        refine k_nil ?_
        refine run_ret rfl ?_
        refine run_res (h) rfl Tryz.func57 rfl weakSub ?_
        refine hK _ _ ?_
        first | exact ⟨rfl, IsB.yes (by rw [he, List.drop_eq_nil_of_le (by omega), getD_drop ys k (by omega)]; rfl)⟩ | exact ⟨rfl, IsB.no (by rw [he, show ys.drop k = [] from List.drop_eq_nil_of_le (by omega)]; cases xs.drop k <;> simp [before])⟩
      · refine k_as rfl zt ?_
        refine k_nil ?_
        refine run_ret rfl ?_
        refine run_res (h) rfl Tryz.func57 rfl weakSub ?_
        refine hK _ _ ?_
        first | exact ⟨rfl, IsB.yes (by rw [he, List.drop_eq_nil_of_le (by omega), getD_drop ys k (by omega)]; rfl)⟩ | exact ⟨rfl, IsB.no (by rw [he, show ys.drop k = [] from List.drop_eq_nil_of_le (by omega)]; cases xs.drop k <;> simp [before])⟩
  · refine k_mv rfl zt ?_
    refine k_off rfl rfl ?_
    refine k_off rfl rfl ?_
    refine k_off rfl rfl ?_
    refine k_off rfl rfl ?_
    refine k_pickF rfl zt ?_
    refine k_nil ?_
    refine run_no ?_
    refine run_exit rfl ?_
    refine run_seq ?_
    refine rr6 (by kernel_rfl) (by kernel_rfl) ?_
    refine k_mv rfl zt ?_
    refine k_len rfl zt ?_
    refine k_mv rfl zt ?_
    refine k_len rfl zt ?_
    refine k_lssS rfl zt (fun hc => ?_) (fun hc => ?_)
    · refine k_as rfl zt ?_
      refine k_nil ?_
      refine run_ret rfl ?_
      refine run_res (h) rfl Tryz.func57 rfl weakSub ?_
      refine hK _ _ ?_
      first | exact ⟨rfl, IsB.yes (by rw [he, List.drop_eq_nil_of_le (by omega), getD_drop ys k (by omega)]; rfl)⟩ | exact ⟨rfl, IsB.no (by rw [he, show ys.drop k = [] from List.drop_eq_nil_of_le (by omega)]; cases xs.drop k <;> simp [before])⟩
    · refine k_as rfl zt ?_
      refine k_nil ?_
      refine run_ret rfl ?_
      refine run_res (h) rfl Tryz.func57 rfl weakSub ?_
      refine hK _ _ ?_
      first | exact ⟨rfl, IsB.yes (by rw [he, List.drop_eq_nil_of_le (by omega), getD_drop ys k (by omega)]; rfl)⟩ | exact ⟨rfl, IsB.no (by rw [he, show ys.drop k = [] from List.drop_eq_nil_of_le (by omega)]; cases xs.drop k <;> simp [before])⟩
theorem f61_c (m : Md Tryz.prog B) (h : Hp) {p p2 : Option Addr} {n c n2 c2 : Nat} {xs ys : List Int} (rd : RdS B h 1 (.slice p n c) n (ints xs)) (hn : n ≤ 1000000) (rd2 : RdS B h 1 (.slice p2 n2 c2) n2 (ints ys)) : FnC m 61 #[.slice p n c, .slice p2 n2 c2] h fun v h' => h' = h ∧ IsB (fewer xs ys) v := by
  have hl := rd.ilen
  have hl2 := rd2.ilen
  refine fn_enter Tryz.func61 rfl rfl (l := [.slice p n c, .slice p2 n2 c2, undef, undef, undef, undef, undef, undef, undef, undef, undef, undef, undef, undef, undef, undef, undef, undef, undef, undef, undef, undef]) rfl ?_
  intro cf cs K hK
  refine run_seq ?_
  refine rr1 (by kernel_rfl) (by kernel_rfl) ?_
  refine k_as rfl zt ?_
  refine k_nil ?_
  refine run_seq ?_
  refine rr18 (by kernel_rfl) (by kernel_rfl) ?_
  refine k_mv rfl zt ?_
  refine k_len rfl zt ?_
  refine k_mv rfl zt ?_
  refine k_len rfl zt ?_
  refine k_lssS rfl zt (fun hc => ?_) (fun hc => ?_)
  · refine k_mv rfl zt ?_
    refine k_off rfl rfl ?_
    refine k_off rfl rfl ?_
    refine k_off rfl rfl ?_
    refine k_off rfl rfl ?_
    refine k_off rfl rfl ?_
    refine k_off rfl rfl ?_
    refine k_off rfl rfl ?_
    refine k_off rfl rfl ?_
    refine k_off rfl rfl ?_
    refine k_off rfl rfl ?_
    refine k_pickT rfl zt ?_
    refine k_as rfl zt ?_
    refine k_nil ?_
    refine run_ret rfl ?_
    refine run_res (h) rfl Tryz.func61 rfl weakSub ?_
    refine hK _ _ ?_
    unfold fewer
    rw [hl, hl2]
    first | exact ⟨rfl, IsB.yes (.inl (by omega))⟩ | exact ⟨rfl, IsB.yes (.inr ⟨by omega, by assumption⟩)⟩ | exact ⟨rfl, IsB.no (by rintro (h1 | ⟨h1, h2⟩) <;> first | omega | contradiction)⟩
  · refine k_mv rfl zt ?_
    refine k_mv rfl rfl ?_
    refine k_len rfl rfl ?_
    refine k_mv rfl rfl ?_
    refine k_len rfl rfl ?_
    refine k_eqlS rfl rfl (fun hc => ?_) (fun hc => ?_)
    · refine k_mv rfl rfl ?_
      refine k_mv rfl rfl ?_
      refine k_mv rfl rfl ?_
      refine k_calP (Post := fun v => IsB _ v) rfl rfl (by kernel_rfl) (fun H' hH => f57_c m H' (rd.keeps hH) hn (rd2.keeps hH)) ?_
      rintro v (⟨hc, rfl⟩ | ⟨hc, rfl⟩)
      · refine k_put ?_
        refine k_pickT rfl rfl ?_
        refine k_pickF rfl zt ?_
        refine k_as rfl zt ?_
        refine k_nil ?_
        refine run_ret rfl ?_
        refine run_res (h) rfl Tryz.func61 rfl weakSub ?_
        refine hK _ _ ?_
        unfold fewer
        rw [hl, hl2]
        first | exact ⟨rfl, IsB.yes (.inl (by omega))⟩ | exact ⟨rfl, IsB.yes (.inr ⟨by omega, by assumption⟩)⟩ | exact ⟨rfl, IsB.no (by rintro (h1 | ⟨h1, h2⟩) <;> first | omega | contradiction)⟩
      · refine k_put ?_
        refine k_pickT rfl rfl ?_
        refine k_pickF rfl zt ?_
        refine k_as rfl zt ?_
        refine k_nil ?_
        refine run_ret rfl ?_
        refine run_res (h) rfl Tryz.func61 rfl weakSub ?_
        refine hK _ _ ?_
        unfold fewer
        rw [hl, hl2]
        first | exact ⟨rfl, IsB.yes (.inl (by omega))⟩ | exact ⟨rfl, IsB.yes (.inr ⟨by omega, by assumption⟩)⟩ | exact ⟨rfl, IsB.no (by rintro (h1 | ⟨h1, h2⟩) <;> first | omega | contradiction)⟩
    · refine k_mv rfl rfl ?_
      refine k_off rfl rfl ?_
      refine k_off rfl rfl ?_
      refine k_off rfl rfl ?_
      refine k_pickF rfl rfl ?_
      refine k_pickF rfl zt ?_
      refine k_as rfl zt ?_
      refine k_nil ?_
      refine run_ret rfl ?_
      refine run_res (h) rfl Tryz.func61 rfl weakSub ?_
      refine hK _ _ ?_
      unfold fewer
      rw [hl, hl2]
      first | exact ⟨rfl, IsB.yes (.inl (by omega))⟩ | exact ⟨rfl, IsB.yes (.inr ⟨by omega, by assumption⟩)⟩ | exact ⟨rfl, IsB.no (by rintro (h1 | ⟨h1, h2⟩) <;> first | omega | contradiction)⟩
end Go.Proofs
namespace Go.Proofs
open Go.Lo
open Go.Conc (G)
set_option maxRecDepth 100000
set_option synthInstance.maxSize 100000
set_option synthInstance.maxHeartbeats 1000000
set_option maxHeartbeats 4000000
variable {B : Array Obj}
def bends (xs : List Int) : List Int := diffs (diffs xs)
theorem bends_length (xs : List Int) : (bends xs).length = xs.length - 2 := by simp [bends, diffs_length]; omega
theorem diffs_getD (l : List Int) (k : Nat) (h : k + 1 < l.length) : (diffs l).getD k 0 = l.getD (k + 1) 0 - l.getD k 0 := by
  rw [List.getD_eq_getElem?_getD, diffs_get l k h]; rfl
theorem bends_getD (xs : List Int) (k : Nat) (h : k + 2 < xs.length) : (bends xs).getD k 0 = xs.getD k 0 + xs.getD (k + 2) 0 - 2 * xs.getD (k + 1) 0 := by
  unfold bends
  rw [diffs_getD _ _ (by rw [diffs_length]; omega), diffs_getD _ _ (by omega), diffs_getD _ _ (by omega), show k + 1 + 1 = k + 2 from rfl]
  omega
theorem getD_out (l : List Int) (k : Nat) (h : l.length ≤ k) : l.getD k 0 = 0 := by
  rw [List.getD_eq_getElem?_getD, List.getElem?_eq_none (by omega)]; rfl
def Small (m : Int) (xs : List Int) : Prop := ∀ j, -m ≤ xs.getD j 0 ∧ xs.getD j 0 ≤ m
theorem Small.diffs {m : Int} {xs : List Int} (hb : Small m xs) : Small (2 * m) (diffs xs) := fun j => by
  have h1 := hb j
  have h2 := hb (j + 1)
  by_cases h : j + 1 < xs.length
  · rw [diffs_getD xs j h]; omega
  · rw [getD_out _ _ (by rw [diffs_length]; omega)]; omega
theorem Small.bends {m : Int} {xs : List Int} (hb : Small m xs) : Small (4 * m) (bends xs) := fun j => by
  have := hb.diffs.diffs j
  unfold Go.Proofs.bends
  omega
def turnSt (s : Int × Int) (k : Int) : Int × Int := (if (k > 0 ∧ s.2 < 0) ∨ (k < 0 ∧ s.2 > 0) then s.1 + 1 else s.1, if k ≠ 0 then k else s.2)
def turnF (l : List Int) : Int × Int := l.foldl turnSt (0, 0)
def turns (xs : List Int) : Int := (turnF (bends xs)).1
theorem turnF_take (l : List Int) (k : Nat) (h : k < l.length) : turnF (l.take (k + 1)) = turnSt (turnF (l.take k)) (l.getD k 0) := by
  rw [take_snoc' l k h, turnF, List.foldl_append]; rfl
def sqs (l : List Int) : Int := l.foldl (fun n k => n + k * k) 0
def strain (xs : List Int) : Int := sqs (bends xs)
theorem sqs_take (l : List Int) (k : Nat) (h : k < l.length) : sqs (l.take (k + 1)) = sqs (l.take k) + l.getD k 0 * l.getD k 0 := by
  rw [take_snoc' l k h, sqs, List.foldl_append]; rfl
theorem sq_bound {x m : Int} (h : -m ≤ x ∧ x ≤ m) : 0 ≤ x * x ∧ x * x ≤ m * m := by
  have h0 : 0 ≤ m := by omega
  rcases Int.le_total 0 x with hx | hx
  · exact ⟨Int.mul_nonneg hx hx, Int.mul_le_mul h.2 h.2 hx h0⟩
  · refine ⟨Int.mul_nonneg_of_nonpos_of_nonpos hx hx, ?_⟩
    have := Int.mul_le_mul (a := -x) (b := -x) (c := m) (d := m) (by omega) (by omega) (by omega) h0
    rwa [Int.neg_mul_neg] at this
def withinL (l : List Int) (m : Int) : Prop := ∀ x ∈ l, -m ≤ x ∧ x ≤ m
def fair (be tw tu : Int) (xs : List Int) : Prop := withinL (bends xs) be ∧ withinL (diffs (bends xs)) tw ∧ turns xs ≤ tu
def gaps (xs ys : List Int) : List Int := List.zipWith (fun a b => max (a - b) (b - a)) xs ys
theorem gaps_length (xs ys : List Int) (h : xs.length ≤ ys.length) : (gaps xs ys).length = xs.length := by simp [gaps]; omega
theorem gaps_getD : ∀ (xs ys : List Int) (k : Nat), k < xs.length → k < ys.length → (gaps xs ys).getD k 0 = max (xs.getD k 0 - ys.getD k 0) (ys.getD k 0 - xs.getD k 0)
  | [], _, k, h, _ => by simp at h
  | a :: r, [], k, _, h => by simp at h
  | a :: r, b :: s, 0, _, _ => rfl
  | a :: r, b :: s, k + 1, h1, h2 => gaps_getD r s k (by simpa using h1) (by simpa using h2)
def sumL (l : List Int) : Int := l.foldl (· + ·) 0
def mostL (l : List Int) : Int := l.foldl max 0
theorem sumL_take (l : List Int) (k : Nat) (h : k < l.length) : sumL (l.take (k + 1)) = sumL (l.take k) + l.getD k 0 := by
  rw [take_snoc' l k h, sumL, List.foldl_append]; rfl
theorem mostL_take (l : List Int) (k : Nat) (h : k < l.length) : mostL (l.take (k + 1)) = max (mostL (l.take k)) (l.getD k 0) := by
  rw [take_snoc' l k h, mostL, List.foldl_append]; rfl
def unlikeF (xs ys : List Int) (k : Nat) : List Int := (firsts k).filter fun i => decide (xs.getD i.toNat 0 ≠ ys.getD i.toNat 0)
def unlike (xs ys : List Int) : List Int := unlikeF xs ys xs.length
theorem unlikeF_yes (xs ys : List Int) (k : Nat) (h : xs.getD k 0 ≠ ys.getD k 0) : unlikeF xs ys (k + 1) = unlikeF xs ys k ++ [(k : Int)] := by
  rw [unlikeF, firsts_succ, List.filter_append, ← unlikeF]
  congr 1
  simp only [List.filter_cons, List.filter_nil, Int.toNat_natCast, ne_eq, h, not_false_eq_true, decide_true, if_true]
theorem unlikeF_no (xs ys : List Int) (k : Nat) (h : xs.getD k 0 = ys.getD k 0) : unlikeF xs ys (k + 1) = unlikeF xs ys k := by
  rw [unlikeF, firsts_succ, List.filter_append, ← unlikeF]
  simp only [List.filter_cons, List.filter_nil, Int.toNat_natCast, ne_eq, h, not_true_eq_false, decide_false, Bool.false_eq_true, if_false, List.append_nil]
theorem unlikeF_length (xs ys : List Int) (k : Nat) : (unlikeF xs ys k).length ≤ k := by
  have := List.length_filter_le (fun i => decide (xs.getD i.toNat 0 ≠ ys.getD i.toNat 0)) (firsts k)
  rw [firsts_length] at this
  exact this
theorem f59_c (m : Md Tryz.prog B) (h : Hp) {p p2 : Option Addr} {n c n2 c2 : Nat} {xs ys : List Int} (rd : RdS B h 1 (.slice p n c) n (ints xs)) (hn : n ≤ 1000) (rd2 : RdS B h 1 (.slice p2 n2 c2) n2 (ints ys)) (hb : Small 100000 xs) (hb2 : Small 100000 ys) (hnn : n ≤ n2) : FnC m 59 #[.slice p n c, .slice p2 n2 c2] h fun v h' => h' = h ∧ v = .tuple [.int .i64 (sumL (gaps xs ys)), .int .i64 (mostL (gaps xs ys))].toArray := by
  have hl := rd.ilen
  have hl2 := rd2.ilen
  refine fn_enter Tryz.func59 rfl rfl (l := [.slice p n c, .slice p2 n2 c2, undef, undef, undef, undef, undef, undef, undef, undef, undef, undef, undef, undef, undef, undef, undef, undef, undef, undef, undef, undef, undef, undef, undef, undef, undef, undef, undef, undef, undef, undef, undef, undef, undef, undef, undef, undef, undef, undef, undef, undef, undef]) rfl ?_
  intro cf cs K hK
  refine run_seq ?_
  refine rr2 (by kernel_rfl) (by kernel_rfl) ?_
  refine k_as rfl zt ?_
  refine k_as rfl zt ?_
  refine k_nil ?_
  refine run_seq ?_
  refine rr2 (by kernel_rfl) (by kernel_rfl) ?_
  refine k_as rfl zt ?_
  refine k_as rfl zt ?_
  refine k_nil ?_
  refine run_seq ?_
  refine run_seq ?_
  refine rr1 (by kernel_rfl) (by kernel_rfl) ?_
  refine k_as rfl zt ?_
  refine k_nil ?_
  refine run_block ?_
  refine run_loop (fun nn l h' => ∃ (k : Nat) (s : Int) (t : Int), nn = n - k ∧ (k ≤ n) ∧ (s = sumL ((gaps xs ys).take k)) ∧ (0 ≤ s) ∧ (s ≤ 200000 * k) ∧ (t = mostL ((gaps xs ys).take k)) ∧ (∃ U : Nat → Value, l = [.slice p n c, .slice p2 n2 c2, U 2, U 3, U 4, U 5, .int .i64 s, .int .i64 t, .int .i64 (k : Int), U 9, U 10, U 11, U 12, U 13, U 14, U 15, U 16, U 17, U 18, U 19, U 20, U 21, U 22, U 23, U 24, U 25, U 26, U 27, U 28, U 29, U 30, U 31, U 32, U 33, U 34, U 35, U 36, U 37, U 38, U 39, U 40, U 41, U 42]) ∧ h = h') _ ⟨0, 0, 0, rfl, by omega, rfl, by omega, by omega, rfl, exU rfl, rfl⟩ ?_
  rintro nn l h' ⟨k, s, t, rfl, hk, hs, hs0, hs1, ht, ⟨U, rfl⟩, rfl⟩ hnext
  have hb0 := hb k
  have hb20 := hb2 k
  have hgl := gaps_length xs ys (by omega)
  refine run_seq ?_
  refine run_seq ?_
  refine rr4 (by kernel_rfl) (by kernel_rfl) ?_
  refine k_mv rfl zt ?_
  refine k_mv rfl zt ?_
  refine k_len rfl zt ?_
  refine k_lssS rfl zt (fun hc => ?_) (fun hc => ?_)
  · refine k_nil ?_
    refine run_yes ?_
    refine run_skip ?_
    refine run_seq ?_
    refine run_block ?_
    refine run_seq ?_
    refine run_draw [(0, .pure), (1, .pure), (2, .pure), (4, .pure), (5, .pure), (6, .pure), (9, .pure), (10, .pure), (11, .pure), (13, .pure), (14, .pure), (15, .pure), (3, .read), (7, .read), (8, .pure), (12, .read), (16, .read), (17, .pure), (18, .pure), (19, .pure)] (by kernel_rfl) (by kernel_rfl) (List.Sublist.refl _) ?_
    refine k_mv rfl zt ?_
    refine k_mv rfl zt ?_
    obtain ⟨rd_b, rd_o, rfl⟩ := rd.ptr (by omega)
    refine k_ixs rfl zt (by first | rfl | assumption) (by omega) (by omega) ?_
    refine k_mv rfl zt ?_
    refine k_mv rfl zt ?_
    obtain ⟨rd2_b, rd2_o, rfl⟩ := rd2.ptr (by omega)
    refine k_ixs rfl zt (by first | rfl | assumption) (by omega) (by omega) ?_
    refine k_mv rfl zt ?_
    refine k_mv rfl zt ?_
    refine k_ixs rfl zt (by first | rfl | assumption) (by omega) (by omega) ?_
    refine k_mv rfl zt ?_
    refine k_mv rfl zt ?_
    refine k_ixs rfl zt (by first | rfl | assumption) (by omega) (by omega) ?_
    refine k_ld rfl zt (rd.iat k (by omega) (by omega)) ?_
    refine k_ld rfl zt (rd2.iat k (by omega) (by omega)) ?_
    refine k_sub rfl zt (by unfold In64; omega) ?_
    refine k_ld rfl zt (rd2.iat k (by omega) (by omega)) ?_
    refine k_ld rfl zt (rd.iat k (by omega) (by omega)) ?_
    refine k_sub rfl zt (by unfold In64; omega) ?_
    refine k_max rfl zt ?_
    refine k_as rfl zt ?_
    refine k_nil ?_
    refine rr8 (by kernel_rfl) (by kernel_rfl) ?_
    refine k_mv rfl zt ?_
    refine k_mv rfl zt ?_
    refine k_add rfl zt (by unfold In64; omega) ?_
    refine k_mv rfl zt ?_
    refine k_mv rfl zt ?_
    refine k_max rfl zt ?_
    refine k_as rfl zt ?_
    refine k_as rfl zt ?_
    refine k_nil ?_
    refine run_inBlock ?_
    refine rr3 (by kernel_rfl) (by kernel_rfl) ?_
    refine k_mv rfl zt ?_
    refine k_add rfl zt (by unfold In64; omega) ?_
    refine k_as rfl zt ?_
    refine k_nil ?_
    have hg := gaps_getD xs ys k (by omega) (by omega)
    exact m.weak weakSub (hnext _ _ _ (by omega) ⟨k + 1, _, _, rfl, by omega, by rw [sumL_take _ _ (by omega), ← hs, hg], by omega, by omega, by rw [mostL_take _ _ (by omega), ← ht, hg], exU rfl, rfl⟩)
  · refine k_nil ?_
    refine run_no ?_
    refine run_exit rfl ?_
    refine run_seq ?_
    refine rr4 (by kernel_rfl) (by kernel_rfl) ?_
    refine k_mv rfl zt ?_
    refine k_mv rfl zt ?_
    refine k_as rfl zt ?_
    refine k_as rfl zt ?_
    refine k_nil ?_
    refine run_ret rfl ?_
    refine run_res (h) rfl Tryz.func59 rfl weakSub ?_
    refine hK _ _ ?_
    obtain rfl : k = n := by omega
    subst hs
    subst ht
    rw [List.take_of_length_le (by omega)]
    exact ⟨rfl, rfl⟩
theorem f60_c (m : Md Tryz.prog B) (h : Hp) {p p2 : Option Addr} {n c n2 c2 : Nat} {xs ys : List Int} (rd : RdS B h 1 (.slice p n c) n (ints xs)) (hn : n ≤ 1000) (rd2 : RdS B h 1 (.slice p2 n2 c2) n2 (ints ys)) (hnn : n ≤ n2) : FnC m 60 #[.slice p n c, .slice p2 n2 c2] h fun v h' => ∃ new, h' = h ++ new ∧ OwnS 3 1 v (unlike xs ys).length (ints (unlike xs ys)) new := by
  have hl := rd.ilen
  have hl2 := rd2.ilen
  refine fn_enter Tryz.func60 rfl rfl (l := [.slice p n c, .slice p2 n2 c2, undef, undef, undef, undef, undef, undef, undef, undef, undef, undef, undef, undef, undef, undef, undef, undef, undef, undef, undef, undef, undef, undef, undef, undef, undef]) rfl ?_
  intro cf cs K hK
  refine run_seq ?_
  refine rr1 (by kernel_rfl) (by kernel_rfl) ?_
  refine k_as rfl zt ?_
  refine k_nil ?_
  refine run_seq ?_
  refine rr1 (by kernel_rfl) (by kernel_rfl) ?_
  refine k_as rfl zt ?_
  refine k_nil ?_
  refine run_seq ?_
  refine run_seq ?_
  refine rr1 (by kernel_rfl) (by kernel_rfl) ?_
  refine k_as rfl zt ?_
  refine k_nil ?_
  refine run_block ?_
  refine run_loop (fun nn l h' => ∃ (k : Nat) (w : Value) (new : Hp), nn = n - k ∧ (k ≤ n) ∧ (OwnS 3 1 w (unlikeF xs ys k).length (ints (unlikeF xs ys k)) new) ∧ (∃ U : Nat → Value, l = [.slice p n c, .slice p2 n2 c2, U 2, U 3, U 4, w, .int .i64 (k : Int), U 7, U 8, U 9, U 10, U 11, U 12, U 13, U 14, U 15, U 16, U 17, U 18, U 19, U 20, U 21, U 22, U 23, U 24, U 25, U 26]) ∧ h ++ new = h') _ ⟨0, _, [], rfl, by omega, OwnS.nil, exU rfl, (by simp)⟩ ?_
  rintro nn l h' ⟨k, w, new, rfl, hk, ho, ⟨U, rfl⟩, rfl⟩ hnext
  have hul := unlikeF_length xs ys k
  refine run_seq ?_
  refine run_seq ?_
  refine rr4 (by kernel_rfl) (by kernel_rfl) ?_
  refine k_mv rfl zt ?_
  refine k_mv rfl zt ?_
  refine k_len rfl zt ?_
  refine k_lssS rfl zt (fun hc => ?_) (fun hc => ?_)
  · refine k_nil ?_
    refine run_yes ?_
    refine run_skip ?_
    refine run_seq ?_
    refine run_block ?_
    refine run_seq ?_
    refine run_draw [(0, .pure), (1, .pure), (2, .pure), (4, .pure), (5, .pure), (6, .pure), (3, .read), (7, .read), (8, .pure)] (by kernel_rfl) (by kernel_rfl) (List.Sublist.refl _) ?_
    refine k_mv rfl zt ?_
    refine k_mv rfl zt ?_
    obtain ⟨rd_b, rd_o, rfl⟩ := rd.ptr (by omega)
    refine k_ixs rfl zt (by first | rfl | assumption) (by omega) (by omega) ?_
    refine k_mv rfl zt ?_
    refine k_mv rfl zt ?_
    obtain ⟨rd2_b, rd2_o, rfl⟩ := rd2.ptr (by omega)
    refine k_ixs rfl zt (by first | rfl | assumption) (by omega) (by omega) ?_
    refine k_ld rfl zt (rd.iat k (by omega) (by omega)) ?_
    refine k_ld rfl zt (rd2.iat k (by omega) (by omega)) ?_
    refine k_neqS rfl zt (fun hc => ?_) (fun hc => ?_)
    · refine k_nil ?_
      refine run_yes ?_
      refine rr5 (by kernel_rfl) (by kernel_rfl) ?_
      refine k_mv rfl zt ?_
      refine k_mv rfl zt ?_
      refine k_bs (by first | exact .inl rfl | exact .inr ⟨rfl, SubH.sub⟩) rfl zt (by decide) (by decide) rfl (fun q24 => k_hp (k_put ?_))
      refine k_app1 (F := h) rfl zt rfl ho (by first | exact .inl rfl | exact .inr ⟨rfl, SubH.sub⟩) (by omega) (by omega) (fun w2 new2 ho2 => k_put ?_)
      rw [show ints (unlikeF xs ys k) ++ [Value.int .i64 (k : Int)] = ints (unlikeF xs ys (k + 1)) by rw [unlikeF_yes xs ys k (by assumption)]; simp] at ho2
      refine k_as rfl zt ?_
      refine k_nil ?_
      refine run_inBlock ?_
      refine rr3 (by kernel_rfl) (by kernel_rfl) ?_
      refine k_mv rfl zt ?_
      refine k_add rfl zt (by unfold In64; omega) ?_
      refine k_as rfl zt ?_
      refine k_nil ?_
      have e := unlikeF_yes xs ys k (by assumption)
      exact m.weak weakSub (hnext _ _ _ (by omega) ⟨k + 1, _, _, rfl, by omega, by rw [show (unlikeF xs ys (k + 1)).length = (unlikeF xs ys k).length + 1 by rw [e]; simp]; exact ho2, exU rfl, rfl⟩)
    · refine k_nil ?_
      refine run_no ?_
      refine run_skip ?_
      refine run_inBlock ?_
      refine rr3 (by kernel_rfl) (by kernel_rfl) ?_
      refine k_mv rfl zt ?_
      refine k_add rfl zt (by unfold In64; omega) ?_
      refine k_as rfl zt ?_
      refine k_nil ?_
      have e := unlikeF_no xs ys k (by assumption)
      exact m.weak weakSub (hnext _ _ _ (by omega) ⟨k + 1, _, _, rfl, by omega, by rw [e]; exact ho, exU rfl, rfl⟩)
  · refine k_nil ?_
    refine run_no ?_
    refine run_exit rfl ?_
    refine run_seq ?_
    refine rr2 (by kernel_rfl) (by kernel_rfl) ?_
    refine k_mv rfl zt ?_
    refine k_as rfl zt ?_
    refine k_nil ?_
    refine run_ret rfl ?_
    refine run_res (h ++ new) rfl Tryz.func60 rfl weakSub ?_
    refine hK _ _ ?_
    obtain rfl : k = xs.length := by omega
    exact ⟨_, rfl, ho⟩
theorem f96_c (m : Md Tryz.prog B) (h : Hp) {p : Option Addr} {n c : Nat} {xs : List Int} (rd : RdS B h 1 (.slice p n c) n (ints xs)) (hn : n ≤ 1000) (hb : Small 100000 xs) : FnC m 96 #[.slice p n c] h fun v h' => ∃ new, h' = h ++ new ∧ OwnS 3 1 v (n - 2) (ints (bends xs)) new := by
  have hl := rd.ilen
  refine fn_enter Tryz.func96 rfl rfl (l := [.slice p n c, undef, undef, undef, undef, undef, undef, undef, undef, undef, undef, undef, undef, undef, undef, undef, undef, undef, undef, undef, undef, undef, undef, undef, undef, undef, undef, undef, undef, undef, undef, undef, undef]) rfl ?_
  intro cf cs K hK
  refine run_seq ?_
  refine rr1 (by kernel_rfl) (by kernel_rfl) ?_
  refine k_as rfl zt ?_
  refine k_nil ?_
  refine run_seq ?_
  refine rr1 (by kernel_rfl) (by kernel_rfl) ?_
  refine k_as rfl zt ?_
  refine k_nil ?_
  refine run_seq ?_
  refine run_seq ?_
  refine rr1 (by kernel_rfl) (by kernel_rfl) ?_
  refine k_as rfl zt ?_
  refine k_nil ?_
  refine run_block ?_
  refine run_loop (fun nn l h' => ∃ (k : Nat) (w : Value) (new : Hp), nn = n - k ∧ (k ≤ n - 2) ∧ (OwnS 3 1 w k (ints ((bends xs).take k)) new) ∧ (∃ U : Nat → Value, l = [.slice p n c, U 1, U 2, w, .int .i64 ((k : Int) + 1), U 5, U 6, U 7, U 8, U 9, U 10, U 11, U 12, U 13, U 14, U 15, U 16, U 17, U 18, U 19, U 20, U 21, U 22, U 23, U 24, U 25, U 26, U 27, U 28, U 29, U 30, U 31, U 32]) ∧ h ++ new = h') _ ⟨0, _, [], rfl, by omega, OwnS.nil, exU rfl, (by simp)⟩ ?_
  rintro nn l h' ⟨k, w, new, rfl, hk, ho, ⟨U, rfl⟩, rfl⟩ hnext
  have hb0 := hb k
  have hb1 := hb (k + 1)
  have hb2 := hb (k + 2)
  refine run_seq ?_
  refine run_seq ?_
  refine rr5 (by kernel_rfl) (by kernel_rfl) ?_
  refine k_mv rfl zt ?_
  refine k_add rfl zt (by unfold In64; omega) ?_
  refine k_mv rfl zt ?_
  refine k_len rfl zt ?_
  refine k_lssS rfl zt (fun hc => ?_) (fun hc => ?_)
  · refine k_nil ?_
    refine run_yes ?_
    refine run_skip ?_
    refine run_seq ?_
    refine run_block ?_
    refine run_draw [(0, .pure), (1, .pure), (2, .pure), (3, .pure), (4, .pure), (6, .pure), (7, .pure), (8, .pure), (9, .pure), (12, .pure), (13, .pure), (14, .pure), (5, .read), (10, .read), (11, .pure), (15, .read), (16, .pure), (17, .pure), (18, .keep), (19, .free), (20, .pure)] (by kernel_rfl) (by kernel_rfl) (List.Sublist.refl _) ?_
    refine k_mv rfl zt ?_
    refine k_mv rfl zt ?_
    refine k_mv rfl zt ?_
    refine k_sub rfl zt (by unfold In64; omega) ?_
    obtain ⟨rd_b, rd_o, rfl⟩ := rd.ptr (by omega)
    refine k_ixs rfl zt (by first | rfl | assumption) (by omega) (by omega) ?_
    refine k_mv rfl zt ?_
    refine k_mv rfl zt ?_
    refine k_add rfl zt (by unfold In64; omega) ?_
    refine k_ixs rfl zt (by first | rfl | assumption) (by omega) (by omega) ?_
    refine k_mv rfl zt ?_
    refine k_mv rfl zt ?_
    refine k_ixs rfl zt (by first | rfl | assumption) (by omega) (by omega) ?_
    refine k_ld rfl zt (rd.iat k (by omega) (by omega)) ?_
    refine k_ld rfl zt (rd.iat (k + 2) (by omega) (by omega)) ?_
    refine k_add rfl zt (by unfold In64; omega) ?_
    refine k_ld rfl zt (rd.iat (k + 1) (by omega) (by omega)) ?_
    refine k_mul rfl zt (by unfold In64; omega) ?_
    refine k_sub rfl zt (by unfold In64; omega) ?_
    refine k_bs (by first | exact .inl rfl | exact .inr ⟨rfl, SubH.sub⟩) rfl zt (by decide) (by decide) rfl (fun q30 => k_hp (k_put ?_))
    refine k_app1 (F := h) rfl zt rfl ho (by first | exact .inl rfl | exact .inr ⟨rfl, SubH.sub⟩) (by omega) (by omega) (fun w2 new2 ho2 => k_put ?_)
    rw [show ints ((bends xs).take k) ++ [Value.int .i64 (xs.getD k 0 + xs.getD (k + 2) 0 - 2 * xs.getD (k + 1) 0)] = ints ((bends xs).take (k + 1)) by rw [take_snoc' _ k (by rw [bends_length]; omega), bends_getD xs k (by omega)]; simp] at ho2
    refine k_as rfl zt ?_
    refine k_nil ?_
    refine run_inBlock ?_
    refine rr3 (by kernel_rfl) (by kernel_rfl) ?_
    refine k_mv rfl zt ?_
    refine k_add rfl zt (by unfold In64; omega) ?_
    refine k_as rfl zt ?_
    refine k_nil ?_
    exact m.weak weakSub (hnext _ _ _ (by omega) ⟨k + 1, _, _, rfl, by omega, ho2, exU rfl, rfl⟩)
  · refine k_nil ?_
    refine run_no ?_
    refine run_exit rfl ?_
    refine run_seq ?_
    refine rr2 (by kernel_rfl) (by kernel_rfl) ?_
    refine k_mv rfl zt ?_
    refine k_as rfl zt ?_
    refine k_nil ?_
    refine run_ret rfl ?_
    refine run_res (h ++ new) rfl Tryz.func96 rfl weakSub ?_
    refine hK _ _ ?_
    obtain rfl : k = n - 2 := by omega
    rw [List.take_of_length_le (by rw [bends_length]; omega)] at ho
    exact ⟨_, rfl, ho⟩
theorem f98_c (m : Md Tryz.prog B) (h : Hp) {p : Option Addr} {n c : Nat} {xs : List Int} (rd : RdS B h 1 (.slice p n c) n (ints xs)) (hn : n ≤ 1000) (hb : Small 100000 xs) : FnC m 98 #[.slice p n c] h fun v h' => ∃ new, h' = h ++ new ∧ OwnS 3 1 v (n - 3) (ints (diffs (bends xs))) new := by
  have hl := rd.ilen
  refine fn_enter Tryz.func98 rfl rfl (l := [.slice p n c, undef, undef, undef, undef, undef, undef, undef, undef, undef, undef, undef, undef, undef, undef, undef, undef, undef, undef, undef, undef, undef, undef, undef, undef, undef, undef, undef]) rfl ?_
  intro cf cs K hK
  refine run_seq ?_
  refine rr1 (by kernel_rfl) (by kernel_rfl) ?_
  refine k_as rfl zt ?_
  refine k_nil ?_
  refine run_seq ?_
  refine rr3 (by kernel_rfl) (by kernel_rfl) ?_
  refine k_mv rfl zt ?_
  refine k_calC rfl zt (by kernel_rfl) (Post := fun v new => OwnS 3 1 v (n - 2) (ints (bends xs)) new) (fun H' hH => f96_c m H' (rd.keeps hH) hn hb) ?_
  intro bv bnew hob
  refine k_hpA (k_put ?_)
  obtain ⟨bp, bc, rfl, hbl⟩ := hob.len
  have rdb : RdS B (h ++ bnew) 1 (.slice bp (n - 2) bc) (n - 2) (ints (bends xs)) := hob.rd'
  have hbl := rdb.ilen
  have hbb := hb.bends
  refine k_as rfl zt ?_
  refine k_nil ?_
  refine run_seq ?_
  refine rr1 (by kernel_rfl) (by kernel_rfl) ?_
  refine k_as rfl zt ?_
  refine k_nil ?_
  refine run_seq ?_
  refine run_seq ?_
  refine rr1 (by kernel_rfl) (by kernel_rfl) ?_
  refine k_as rfl zt ?_
  refine k_nil ?_
  refine run_block ?_
  refine run_loop (fun nn l h' => ∃ (k : Nat) (w : Value) (new : Hp), nn = n - k ∧ (k ≤ n - 3) ∧ (OwnS 3 1 w k (ints ((diffs (bends xs)).take k)) new) ∧ (∃ U : Nat → Value, l = [.slice p n c, U 1, U 2, .slice bp (n - 2) bc, w, .int .i64 ((k : Int) + 1), U 6, U 7, U 8, U 9, U 10, U 11, U 12, U 13, U 14, U 15, U 16, U 17, U 18, U 19, U 20, U 21, U 22, U 23, U 24, U 25, U 26, U 27]) ∧ (h ++ bnew) ++ new = h') _ ⟨0, _, [], rfl, by omega, OwnS.nil, exU rfl, (by simp)⟩ ?_
  rintro nn l h' ⟨k, w, new, rfl, hk, ho, ⟨U, rfl⟩, rfl⟩ hnext
  have hb0 := hbb k
  have hb1 := hbb (k + 1)
  refine run_seq ?_
  refine run_seq ?_
  refine rr4 (by kernel_rfl) (by kernel_rfl) ?_
  refine k_mv rfl zt ?_
  refine k_mv rfl zt ?_
  refine k_len rfl zt ?_
  refine k_lssS rfl zt (fun hc => ?_) (fun hc => ?_)
  · refine k_nil ?_
    refine run_yes ?_
    refine run_skip ?_
    refine run_seq ?_
    refine run_block ?_
    refine run_draw [(0, .pure), (1, .pure), (2, .pure), (3, .pure), (5, .pure), (6, .pure), (7, .pure), (8, .pure), (4, .read), (9, .read), (10, .pure), (11, .keep), (12, .free), (13, .pure)] (by kernel_rfl) (by kernel_rfl) (List.Sublist.refl _) ?_
    refine k_mv rfl zt ?_
    refine k_mv rfl zt ?_
    refine k_mv rfl zt ?_
    obtain ⟨rdb_b, rdb_o, rfl⟩ := rdb.ptr (by omega)
    refine k_ixs rfl zt (by first | rfl | assumption) (by omega) (by omega) ?_
    refine k_mv rfl zt ?_
    refine k_mv rfl zt ?_
    refine k_sub rfl zt (by unfold In64; omega) ?_
    refine k_ixs rfl zt (by first | rfl | assumption) (by omega) (by omega) ?_
    refine k_ld rfl zt (rdb.iat (k + 1) (by omega) (by omega)) ?_
    refine k_ld rfl zt (rdb.iat k (by omega) (by omega)) ?_
    refine k_sub rfl zt (by unfold In64; omega) ?_
    refine k_bs (by first | exact .inl rfl | exact .inr ⟨rfl, SubH.sub⟩) rfl zt (by decide) (by decide) rfl (fun q25 => k_hp (k_put ?_))
    refine k_app1 (F := h ++ bnew) rfl zt rfl ho (by first | exact .inl rfl | exact .inr ⟨rfl, SubH.sub⟩) (by omega) (by omega) (fun w2 new2 ho2 => k_put ?_)
    rw [show ints ((diffs (bends xs)).take k) ++ [Value.int .i64 ((bends xs).getD (k + 1) 0 - (bends xs).getD k 0)] = ints ((diffs (bends xs)).take (k + 1)) by rw [take_snoc' _ k (by rw [diffs_length]; omega), diffs_getD (bends xs) k (by omega)]; simp] at ho2
    refine k_as rfl zt ?_
    refine k_nil ?_
    refine run_inBlock ?_
    refine rr3 (by kernel_rfl) (by kernel_rfl) ?_
    refine k_mv rfl zt ?_
    refine k_add rfl zt (by unfold In64; omega) ?_
    refine k_as rfl zt ?_
    refine k_nil ?_
    exact m.weak weakSub (hnext _ _ _ (by omega) ⟨k + 1, _, _, rfl, by omega, ho2, exU rfl, rfl⟩)
  · refine k_nil ?_
    refine run_no ?_
    refine run_exit rfl ?_
    refine run_seq ?_
    refine rr2 (by kernel_rfl) (by kernel_rfl) ?_
    refine k_mv rfl zt ?_
    refine k_as rfl zt ?_
    refine k_nil ?_
    refine run_ret rfl ?_
    refine run_res (h ++ new) rfl Tryz.func98 rfl weakSub ?_
    refine hK _ _ ?_
    obtain rfl : k = n - 3 := by omega
    rw [List.take_of_length_le (by rw [diffs_length]; omega)] at ho
    exact ⟨_, rfl, ho⟩
theorem f100_c (m : Md Tryz.prog B) (h : Hp) {p : Option Addr} {n c : Nat} {xs : List Int} (rd : RdS B h 1 (.slice p n c) n (ints xs)) (hn : n ≤ 1000) (hb : Small 100000 xs) : FnC m 100 #[.slice p n c] h fun v h' => h' = h ∧ v = .int .i64 (turns xs) := by
  have hl := rd.ilen
  refine fn_enter Tryz.func100 rfl rfl (l := [.slice p n c, undef, undef, undef, undef, undef, undef, undef, undef, undef, undef, undef, undef, undef, undef, undef, undef, undef, undef, undef, undef, undef, undef, undef, undef, undef, undef, undef, undef, undef, undef, undef, undef, undef, undef, undef, undef, undef, undef, undef, undef, undef, undef, undef, undef, undef, undef]) rfl ?_
  intro cf cs K hK
  refine run_seq ?_
  refine rr1 (by kernel_rfl) (by kernel_rfl) ?_
  refine k_as rfl zt ?_
  refine k_nil ?_
  refine run_seq ?_
  refine rr3 (by kernel_rfl) (by kernel_rfl) ?_
  refine k_mv rfl zt ?_
  refine k_calC rfl zt (by kernel_rfl) (Post := fun v new => OwnS 3 1 v (n - 2) (ints (bends xs)) new) (fun H' hH => f96_c m H' (rd.keeps hH) hn hb) ?_
  intro bv bnew hob
  refine k_hpA (k_put ?_)
  obtain ⟨bp, bc, rfl, hbl⟩ := hob.len
  have rdb : RdS B (h ++ bnew) 1 (.slice bp (n - 2) bc) (n - 2) (ints (bends xs)) := hob.rd'
  have hbl := rdb.ilen
  have hbb := hb.bends
  refine k_as rfl zt ?_
  refine k_nil ?_
  refine run_seq ?_
  refine rr2 (by kernel_rfl) (by kernel_rfl) ?_
  refine k_as rfl zt ?_
  refine k_as rfl zt ?_
  refine k_nil ?_
  refine run_seq ?_
  refine run_seq ?_
  refine rr1 (by kernel_rfl) (by kernel_rfl) ?_
  refine k_as rfl zt ?_
  refine k_nil ?_
  refine run_block ?_
  refine run_loop (fun nn l h' => ∃ (k : Nat) (s : Int) (t : Int), nn = n - k ∧ (k ≤ n - 2) ∧ (turnF ((bends xs).take k) = (s, t)) ∧ (0 ≤ s) ∧ (s ≤ k) ∧ (∃ U : Nat → Value, l = [.slice p n c, U 1, U 2, .slice bp (n - 2) bc, .int .i64 s, .int .i64 t, .int .i64 (k : Int), U 7, U 8, U 9, U 10, U 11, U 12, U 13, U 14, U 15, U 16, U 17, U 18, U 19, U 20, U 21, U 22, U 23, U 24, U 25, U 26, U 27, U 28, U 29, U 30, U 31, U 32, U 33, U 34, U 35, U 36, U 37, U 38, U 39, U 40, U 41, U 42, U 43, U 44, U 45, U 46]) ∧ h ++ bnew = h') _ ⟨0, 0, 0, rfl, by omega, rfl, by omega, by omega, exU rfl, rfl⟩ ?_
  rintro nn l h' ⟨k, s, t, rfl, hk, hs, hs0, hs1, ⟨U, rfl⟩, rfl⟩ hnext
  refine run_seq ?_
  refine run_seq ?_
  refine rr4 (by kernel_rfl) (by kernel_rfl) ?_
  refine k_mv rfl zt ?_
  refine k_mv rfl zt ?_
  refine k_len rfl zt ?_
  refine k_lssS rfl zt (fun hc => ?_) (fun hc => ?_)
  · refine k_nil ?_
    refine run_yes ?_
    refine run_skip ?_
    refine run_seq ?_
    refine run_block ?_
    refine run_seq ?_
    refine run_seq ?_
    refine rr20 (by kernel_rfl) (by kernel_rfl) ?_
    refine k_mv rfl zt ?_
    refine k_mv rfl zt ?_
    obtain ⟨rdb_b, rdb_o, rfl⟩ := rdb.ptr (by omega)
    refine k_ixs rfl zt (by first | rfl | assumption) (by omega) (by omega) ?_
    refine k_ld rfl zt (rdb.iat k (by omega) (by omega)) ?_
    refine k_gtrS rfl zt (fun hc => ?_) (fun hc => ?_)
    · refine k_mv rfl zt ?_
      refine k_mv rfl rfl ?_
      refine k_lssS rfl rfl (fun hc => ?_) (fun hc => ?_)
      · refine k_pickT rfl zt ?_
        refine k_mv rfl zt ?_
        refine k_off rfl rfl ?_
        refine k_off rfl rfl ?_
        refine k_off rfl rfl ?_
        refine k_off rfl rfl ?_
        refine k_off rfl rfl ?_
        refine k_off rfl rfl ?_
        refine k_off rfl rfl ?_
        refine k_off rfl rfl ?_
        refine k_off rfl rfl ?_
        refine k_pickT rfl zt ?_
        refine k_nil ?_
        refine run_yes ?_
        refine rr3 (by kernel_rfl) (by kernel_rfl) ?_
        refine k_mv rfl zt ?_
        refine k_add rfl zt (by unfold In64; omega) ?_
        refine k_as rfl zt ?_
        refine k_nil ?_
        refine run_seq ?_
        refine rr5 (by kernel_rfl) (by kernel_rfl) ?_
        refine k_mv rfl zt ?_
        refine k_mv rfl zt ?_
        refine k_ixs rfl zt (by first | rfl | assumption) (by omega) (by omega) ?_
        refine k_ld rfl zt (rdb.iat k (by omega) (by omega)) ?_
        refine k_neqS rfl zt (fun hc => ?_) (fun hc => ?_)
        · refine k_nil ?_
          refine run_yes ?_
          refine rr5 (by kernel_rfl) (by kernel_rfl) ?_
          refine k_mv rfl zt ?_
          refine k_mv rfl zt ?_
          refine k_ixs rfl zt (by first | rfl | assumption) (by omega) (by omega) ?_
          refine k_ld rfl zt (rdb.iat k (by omega) (by omega)) ?_
          refine k_as rfl zt ?_
          refine k_nil ?_
          refine run_inBlock ?_
          refine rr3 (by kernel_rfl) (by kernel_rfl) ?_
          refine k_mv rfl zt ?_
          refine k_add rfl zt (by unfold In64; omega) ?_
          refine k_as rfl zt ?_
          refine k_nil ?_
          have ht := turnF_take (bends xs) k (by omega)
          rw [hs] at ht
          simp only [turnSt] at ht
          exact m.weak weakSub (hnext _ _ _ (by omega) ⟨k + 1, _, _, rfl, by omega, by first | (exfalso; omega) | (rw [ht]; repeat first | rw [if_pos (by omega)] | rw [if_neg (by omega)]), by omega, by omega, exU rfl, rfl⟩)
        · refine k_nil ?_
          refine run_no ?_
          refine run_skip ?_
          refine run_inBlock ?_
          refine rr3 (by kernel_rfl) (by kernel_rfl) ?_
          refine k_mv rfl zt ?_
          refine k_add rfl zt (by unfold In64; omega) ?_
          refine k_as rfl zt ?_
          refine k_nil ?_
          have ht := turnF_take (bends xs) k (by omega)
          rw [hs] at ht
          simp only [turnSt] at ht
          exact m.weak weakSub (hnext _ _ _ (by omega) ⟨k + 1, _, _, rfl, by omega, by first | (exfalso; omega) | (rw [ht]; repeat first | rw [if_pos (by omega)] | rw [if_neg (by omega)]), by omega, by omega, exU rfl, rfl⟩)
      · refine k_pickT rfl zt ?_
        refine k_mv rfl zt ?_
        refine k_mv rfl rfl ?_
        refine k_mv rfl rfl ?_
        refine k_ixs rfl rfl (by first | rfl | assumption) (by omega) (by omega) ?_
        refine k_ld rfl rfl (rdb.iat k (by omega) (by omega)) ?_
        refine k_lssS rfl rfl (fun hc => ?_) (fun hc => ?_)
        · refine k_mv rfl rfl ?_
          refine k_mv rfl rfl ?_
          refine k_gtrS rfl rfl (fun hc => ?_) (fun hc => ?_)
          · refine k_pickT rfl rfl ?_
            refine k_pickF rfl zt ?_
            refine k_nil ?_
            refine run_yes ?_
            refine rr3 (by kernel_rfl) (by kernel_rfl) ?_
            refine k_mv rfl zt ?_
            refine k_add rfl zt (by unfold In64; omega) ?_
            refine k_as rfl zt ?_
            refine k_nil ?_
            refine run_seq ?_
            refine rr5 (by kernel_rfl) (by kernel_rfl) ?_
            refine k_mv rfl zt ?_
            refine k_mv rfl zt ?_
            refine k_ixs rfl zt (by first | rfl | assumption) (by omega) (by omega) ?_
            refine k_ld rfl zt (rdb.iat k (by omega) (by omega)) ?_
            refine k_neqS rfl zt (fun hc => ?_) (fun hc => ?_)
            · refine k_nil ?_
              refine run_yes ?_
              refine rr5 (by kernel_rfl) (by kernel_rfl) ?_
              refine k_mv rfl zt ?_
              refine k_mv rfl zt ?_
              refine k_ixs rfl zt (by first | rfl | assumption) (by omega) (by omega) ?_
              refine k_ld rfl zt (rdb.iat k (by omega) (by omega)) ?_
              refine k_as rfl zt ?_
              refine k_nil ?_
              refine run_inBlock ?_
              refine rr3 (by kernel_rfl) (by kernel_rfl) ?_
              refine k_mv rfl zt ?_
              refine k_add rfl zt (by unfold In64; omega) ?_
              refine k_as rfl zt ?_
              refine k_nil ?_
              have ht := turnF_take (bends xs) k (by omega)
              rw [hs] at ht
              simp only [turnSt] at ht
              exact m.weak weakSub (hnext _ _ _ (by omega) ⟨k + 1, _, _, rfl, by omega, by first | (exfalso; omega) | (rw [ht]; repeat first | rw [if_pos (by omega)] | rw [if_neg (by omega)]), by omega, by omega, exU rfl, rfl⟩)
            · refine k_nil ?_
              refine run_no ?_
              refine run_skip ?_
              refine run_inBlock ?_
              refine rr3 (by kernel_rfl) (by kernel_rfl) ?_
              refine k_mv rfl zt ?_
              refine k_add rfl zt (by unfold In64; omega) ?_
              refine k_as rfl zt ?_
              refine k_nil ?_
              have ht := turnF_take (bends xs) k (by omega)
              rw [hs] at ht
              simp only [turnSt] at ht
              exact m.weak weakSub (hnext _ _ _ (by omega) ⟨k + 1, _, _, rfl, by omega, by first | (exfalso; omega) | (rw [ht]; repeat first | rw [if_pos (by omega)] | rw [if_neg (by omega)]), by omega, by omega, exU rfl, rfl⟩)
          · refine k_pickT rfl rfl ?_
            refine k_pickF rfl zt ?_
            refine k_nil ?_
            refine run_no ?_
            refine run_skip ?_
            refine run_seq ?_
            refine rr5 (by kernel_rfl) (by kernel_rfl) ?_
            refine k_mv rfl zt ?_
            refine k_mv rfl zt ?_
            refine k_ixs rfl zt (by first | rfl | assumption) (by omega) (by omega) ?_
            refine k_ld rfl zt (rdb.iat k (by omega) (by omega)) ?_
            refine k_neqS rfl zt (fun hc => ?_) (fun hc => ?_)
            · refine k_nil ?_
              refine run_yes ?_
              refine rr5 (by kernel_rfl) (by kernel_rfl) ?_
              refine k_mv rfl zt ?_
              refine k_mv rfl zt ?_
              refine k_ixs rfl zt (by first | rfl | assumption) (by omega) (by omega) ?_
              refine k_ld rfl zt (rdb.iat k (by omega) (by omega)) ?_
              refine k_as rfl zt ?_
              refine k_nil ?_
              refine run_inBlock ?_
              refine rr3 (by kernel_rfl) (by kernel_rfl) ?_
              refine k_mv rfl zt ?_
              refine k_add rfl zt (by unfold In64; omega) ?_
              refine k_as rfl zt ?_
              refine k_nil ?_
              have ht := turnF_take (bends xs) k (by omega)
              rw [hs] at ht
              simp only [turnSt] at ht
              exact m.weak weakSub (hnext _ _ _ (by omega) ⟨k + 1, _, _, rfl, by omega, by first | (exfalso; omega) | (rw [ht]; repeat first | rw [if_pos (by omega)] | rw [if_neg (by omega)]), by omega, by omega, exU rfl, rfl⟩)
            · refine k_nil ?_
              refine run_no ?_
              refine run_skip ?_
              refine run_inBlock ?_
              refine rr3 (by kernel_rfl) (by kernel_rfl) ?_
              refine k_mv rfl zt ?_
              refine k_add rfl zt (by unfold In64; omega) ?_
              refine k_as rfl zt ?_
              refine k_nil ?_
              have ht := turnF_take (bends xs) k (by omega)
              rw [hs] at ht
              simp only [turnSt] at ht
              exact m.weak weakSub (hnext _ _ _ (by omega) ⟨k + 1, _, _, rfl, by omega, by first | (exfalso; omega) | (rw [ht]; repeat first | rw [if_pos (by omega)] | rw [if_neg (by omega)]), by omega, by omega, exU rfl, rfl⟩)
        · refine k_mv rfl rfl ?_
          refine k_off rfl rfl ?_
          refine k_off rfl rfl ?_
          refine k_pickF rfl rfl ?_
          refine k_pickF rfl zt ?_
          refine k_nil ?_
          refine run_no ?_
          refine run_skip ?_
          refine run_seq ?_
          refine rr5 (by kernel_rfl) (by kernel_rfl) ?_
          refine k_mv rfl zt ?_
          refine k_mv rfl zt ?_
          refine k_ixs rfl zt (by first | rfl | assumption) (by omega) (by omega) ?_
          refine k_ld rfl zt (rdb.iat k (by omega) (by omega)) ?_
          refine k_neqS rfl zt (fun hc => ?_) (fun hc => ?_)
          · refine k_nil ?_
            refine run_yes ?_
            refine rr5 (by kernel_rfl) (by kernel_rfl) ?_
            refine k_mv rfl zt ?_
            refine k_mv rfl zt ?_
            refine k_ixs rfl zt (by first | rfl | assumption) (by omega) (by omega) ?_
            refine k_ld rfl zt (rdb.iat k (by omega) (by omega)) ?_
            refine k_as rfl zt ?_
            refine k_nil ?_
            refine run_inBlock ?_
            refine rr3 (by kernel_rfl) (by kernel_rfl) ?_
            refine k_mv rfl zt ?_
            refine k_add rfl zt (by unfold In64; omega) ?_
            refine k_as rfl zt ?_
            refine k_nil ?_
            have ht := turnF_take (bends xs) k (by omega)
            rw [hs] at ht
            simp only [turnSt] at ht
            exact m.weak weakSub (hnext _ _ _ (by omega) ⟨k + 1, _, _, rfl, by omega, by first | (exfalso; omega) | (rw [ht]; repeat first | rw [if_pos (by omega)] | rw [if_neg (by omega)]), by omega, by omega, exU rfl, rfl⟩)
          · refine k_nil ?_
            refine run_no ?_
            refine run_skip ?_
            refine run_inBlock ?_
            refine rr3 (by kernel_rfl) (by kernel_rfl) ?_
            refine k_mv rfl zt ?_
            refine k_add rfl zt (by unfold In64; omega) ?_
            refine k_as rfl zt ?_
            refine k_nil ?_
            have ht := turnF_take (bends xs) k (by omega)
            rw [hs] at ht
            simp only [turnSt] at ht
            exact m.weak weakSub (hnext _ _ _ (by omega) ⟨k + 1, _, _, rfl, by omega, by first | (exfalso; omega) | (rw [ht]; repeat first | rw [if_pos (by omega)] | rw [if_neg (by omega)]), by omega, by omega, exU rfl, rfl⟩)
    · refine k_mv rfl zt ?_
      refine k_off rfl rfl ?_
      refine k_off rfl rfl ?_
      refine k_pickF rfl zt ?_
      refine k_mv rfl zt ?_
      refine k_mv rfl rfl ?_
      refine k_mv rfl rfl ?_
      refine k_ixs rfl rfl (by first | rfl | assumption) (by omega) (by omega) ?_
      refine k_ld rfl rfl (rdb.iat k (by omega) (by omega)) ?_
      refine k_lssS rfl rfl (fun hc => ?_) (fun hc => ?_)
      · refine k_mv rfl rfl ?_
        refine k_mv rfl rfl ?_
        refine k_gtrS rfl rfl (fun hc => ?_) (fun hc => ?_)
        · refine k_pickT rfl rfl ?_
          refine k_pickF rfl zt ?_
          refine k_nil ?_
          refine run_yes ?_
          refine rr3 (by kernel_rfl) (by kernel_rfl) ?_
          refine k_mv rfl zt ?_
          refine k_add rfl zt (by unfold In64; omega) ?_
          refine k_as rfl zt ?_
          refine k_nil ?_
          refine run_seq ?_
          refine rr5 (by kernel_rfl) (by kernel_rfl) ?_
          refine k_mv rfl zt ?_
          refine k_mv rfl zt ?_
          refine k_ixs rfl zt (by first | rfl | assumption) (by omega) (by omega) ?_
          refine k_ld rfl zt (rdb.iat k (by omega) (by omega)) ?_
          refine k_neqS rfl zt (fun hc => ?_) (fun hc => ?_)
          · refine k_nil ?_
            refine run_yes ?_
            refine rr5 (by kernel_rfl) (by kernel_rfl) ?_
            refine k_mv rfl zt ?_
            refine k_mv rfl zt ?_
            refine k_ixs rfl zt (by first | rfl | assumption) (by omega) (by omega) ?_
            refine k_ld rfl zt (rdb.iat k (by omega) (by omega)) ?_
            refine k_as rfl zt ?_
            refine k_nil ?_
            refine run_inBlock ?_
            refine rr3 (by kernel_rfl) (by kernel_rfl) ?_
            refine k_mv rfl zt ?_
            refine k_add rfl zt (by unfold In64; omega) ?_
            refine k_as rfl zt ?_
            refine k_nil ?_
            have ht := turnF_take (bends xs) k (by omega)
            rw [hs] at ht
            simp only [turnSt] at ht
            exact m.weak weakSub (hnext _ _ _ (by omega) ⟨k + 1, _, _, rfl, by omega, by first | (exfalso; omega) | (rw [ht]; repeat first | rw [if_pos (by omega)] | rw [if_neg (by omega)]), by omega, by omega, exU rfl, rfl⟩)
          · refine k_nil ?_
            refine run_no ?_
            refine run_skip ?_
            refine run_inBlock ?_
            refine rr3 (by kernel_rfl) (by kernel_rfl) ?_
            refine k_mv rfl zt ?_
            refine k_add rfl zt (by unfold In64; omega) ?_
            refine k_as rfl zt ?_
            refine k_nil ?_
            have ht := turnF_take (bends xs) k (by omega)
            rw [hs] at ht
            simp only [turnSt] at ht
            exact m.weak weakSub (hnext _ _ _ (by omega) ⟨k + 1, _, _, rfl, by omega, by first | (exfalso; omega) | (rw [ht]; repeat first | rw [if_pos (by omega)] | rw [if_neg (by omega)]), by omega, by omega, exU rfl, rfl⟩)
        · refine k_pickT rfl rfl ?_
          refine k_pickF rfl zt ?_
          refine k_nil ?_
          refine run_no ?_
          refine run_skip ?_
          refine run_seq ?_
          refine rr5 (by kernel_rfl) (by kernel_rfl) ?_
          refine k_mv rfl zt ?_
          refine k_mv rfl zt ?_
          refine k_ixs rfl zt (by first | rfl | assumption) (by omega) (by omega) ?_
          refine k_ld rfl zt (rdb.iat k (by omega) (by omega)) ?_
          refine k_neqS rfl zt (fun hc => ?_) (fun hc => ?_)
          · refine k_nil ?_
            refine run_yes ?_
            refine rr5 (by kernel_rfl) (by kernel_rfl) ?_
            refine k_mv rfl zt ?_
            refine k_mv rfl zt ?_
            refine k_ixs rfl zt (by first | rfl | assumption) (by omega) (by omega) ?_
            refine k_ld rfl zt (rdb.iat k (by omega) (by omega)) ?_
            refine k_as rfl zt ?_
            refine k_nil ?_
            refine run_inBlock ?_
            refine rr3 (by kernel_rfl) (by kernel_rfl) ?_
            refine k_mv rfl zt ?_
            refine k_add rfl zt (by unfold In64; omega) ?_
            refine k_as rfl zt ?_
            refine k_nil ?_
            have ht := turnF_take (bends xs) k (by omega)
            rw [hs] at ht
            simp only [turnSt] at ht
            exact m.weak weakSub (hnext _ _ _ (by omega) ⟨k + 1, _, _, rfl, by omega, by first | (exfalso; omega) | (rw [ht]; repeat first | rw [if_pos (by omega)] | rw [if_neg (by omega)]), by omega, by omega, exU rfl, rfl⟩)
          · refine k_nil ?_
            refine run_no ?_
            refine run_skip ?_
            refine run_inBlock ?_
            refine rr3 (by kernel_rfl) (by kernel_rfl) ?_
            refine k_mv rfl zt ?_
            refine k_add rfl zt (by unfold In64; omega) ?_
            refine k_as rfl zt ?_
            refine k_nil ?_
            have ht := turnF_take (bends xs) k (by omega)
            rw [hs] at ht
            simp only [turnSt] at ht
            exact m.weak weakSub (hnext _ _ _ (by omega) ⟨k + 1, _, _, rfl, by omega, by first | (exfalso; omega) | (rw [ht]; repeat first | rw [if_pos (by omega)] | rw [if_neg (by omega)]), by omega, by omega, exU rfl, rfl⟩)
      · refine k_mv rfl rfl ?_
        refine k_off rfl rfl ?_
        refine k_off rfl rfl ?_
        refine k_pickF rfl rfl ?_
        refine k_pickF rfl zt ?_
        refine k_nil ?_
        refine run_no ?_
        refine run_skip ?_
        refine run_seq ?_
        refine rr5 (by kernel_rfl) (by kernel_rfl) ?_
        refine k_mv rfl zt ?_
        refine k_mv rfl zt ?_
        refine k_ixs rfl zt (by first | rfl | assumption) (by omega) (by omega) ?_
        refine k_ld rfl zt (rdb.iat k (by omega) (by omega)) ?_
        refine k_neqS rfl zt (fun hc => ?_) (fun hc => ?_)
        · refine k_nil ?_
          refine run_yes ?_
          refine rr5 (by kernel_rfl) (by kernel_rfl) ?_
          refine k_mv rfl zt ?_
          refine k_mv rfl zt ?_
          refine k_ixs rfl zt (by first | rfl | assumption) (by omega) (by omega) ?_
          refine k_ld rfl zt (rdb.iat k (by omega) (by omega)) ?_
          refine k_as rfl zt ?_
          refine k_nil ?_
          refine run_inBlock ?_
          refine rr3 (by kernel_rfl) (by kernel_rfl) ?_
          refine k_mv rfl zt ?_
          refine k_add rfl zt (by unfold In64; omega) ?_
          refine k_as rfl zt ?_
          refine k_nil ?_
          have ht := turnF_take (bends xs) k (by omega)
          rw [hs] at ht
          simp only [turnSt] at ht
          exact m.weak weakSub (hnext _ _ _ (by omega) ⟨k + 1, _, _, rfl, by omega, by first | (exfalso; omega) | (rw [ht]; repeat first | rw [if_pos (by omega)] | rw [if_neg (by omega)]), by omega, by omega, exU rfl, rfl⟩)
        · refine k_nil ?_
          refine run_no ?_
          refine run_skip ?_
          refine run_inBlock ?_
          refine rr3 (by kernel_rfl) (by kernel_rfl) ?_
          refine k_mv rfl zt ?_
          refine k_add rfl zt (by unfold In64; omega) ?_
          refine k_as rfl zt ?_
          refine k_nil ?_
          have ht := turnF_take (bends xs) k (by omega)
          rw [hs] at ht
          simp only [turnSt] at ht
          exact m.weak weakSub (hnext _ _ _ (by omega) ⟨k + 1, _, _, rfl, by omega, by first | (exfalso; omega) | (rw [ht]; repeat first | rw [if_pos (by omega)] | rw [if_neg (by omega)]), by omega, by omega, exU rfl, rfl⟩)
  · refine k_nil ?_
    refine run_no ?_
    refine run_exit rfl ?_
    refine run_seq ?_
    refine rr2 (by kernel_rfl) (by kernel_rfl) ?_
    refine k_mv rfl zt ?_
    refine k_as rfl zt ?_
    refine k_nil ?_
    refine run_ret rfl ?_
    refine run_res (h) rfl Tryz.func100 rfl weakSub ?_
    refine hK _ _ ?_
    obtain rfl : k = n - 2 := by omega
    rw [List.take_of_length_le (by omega)] at hs
    exact ⟨rfl, by rw [turns, hs]⟩
theorem f148_c (m : Md Tryz.prog B) (h : Hp) {p : Option Addr} {n c : Nat} {xs : List Int} (rd : RdS B h 1 (.slice p n c) n (ints xs)) (hn : n ≤ 1000) (x : Int) (hx : 0 ≤ x ∧ x ≤ 10000) : FnC m 148 #[.slice p n c, .int .i64 x] h fun v h' => h' = h ∧ IsB (withinL xs x) v := by
  have hl := rd.ilen
  refine fn_enter Tryz.func148 rfl rfl (l := [.slice p n c, .int .i64 x, undef, undef, undef, undef, undef, undef, undef, undef, undef, undef, undef, undef, undef, undef, undef, undef, undef, undef, undef]) rfl ?_
  intro cf cs K hK
  refine run_seq ?_
  refine rr1 (by kernel_rfl) (by kernel_rfl) ?_
  refine k_as rfl zt ?_
  refine k_nil ?_
  refine run_seq ?_
  refine run_seq ?_
  refine rr1 (by kernel_rfl) (by kernel_rfl) ?_
  refine k_as rfl zt ?_
  refine k_nil ?_
  refine run_block ?_
  refine run_loop (fun nn l h' => ∃ (k : Nat), nn = n - k ∧ (k ≤ n) ∧ (∀ i, i < k → -x ≤ xs.getD i 0 ∧ xs.getD i 0 ≤ x) ∧ (∃ U : Nat → Value, l = [.slice p n c, .int .i64 x, U 2, U 3, U 4, .int .i64 (k : Int), U 6, U 7, U 8, U 9, U 10, U 11, U 12, U 13, U 14, U 15, U 16, U 17, U 18, U 19, U 20]) ∧ h = h') _ ⟨0, rfl, by omega, by omega, exU rfl, rfl⟩ ?_
  rintro nn l h' ⟨k, rfl, hk, he, ⟨U, rfl⟩, rfl⟩ hnext
  refine run_seq ?_
  refine run_seq ?_
  refine rr4 (by kernel_rfl) (by kernel_rfl) ?_
  refine k_mv rfl zt ?_
  refine k_mv rfl zt ?_
  refine k_len rfl zt ?_
  refine k_lssS rfl zt (fun hc => ?_) (fun hc => ?_)
  · refine k_nil ?_
    refine run_yes ?_
    refine run_skip ?_
    refine run_seq ?_
    refine run_block ?_
    refine run_seq ?_
    refine rr9 (by kernel_rfl) (by kernel_rfl) ?_
    refine k_mv rfl zt ?_
    refine k_mv rfl zt ?_
    obtain ⟨rd_b, rd_o, rfl⟩ := rd.ptr (by omega)
    refine k_ixs rfl zt (by first | rfl | assumption) (by omega) (by omega) ?_
    refine k_ld rfl zt (rd.iat k (by omega) (by omega)) ?_
    refine k_mv rfl zt ?_
    refine k_neg rfl zt (by unfold In64; omega) ?_
    refine k_mv rfl zt ?_
    refine k_calP (Post := fun v => IsB _ v) rfl zt (by kernel_rfl) (fun H' hH => f72_c m H' _ _ _) ?_
    rintro v (⟨hc, rfl⟩ | ⟨hc, rfl⟩)
    · refine k_put ?_
      refine k_notT rfl zt ?_
      refine k_nil ?_
      refine run_no ?_
      refine run_skip ?_
      refine run_inBlock ?_
      refine rr3 (by kernel_rfl) (by kernel_rfl) ?_
      refine k_mv rfl zt ?_
      refine k_add rfl zt (by unfold In64; omega) ?_
      refine k_as rfl zt ?_
      refine k_nil ?_
      exact m.weak weakSub (hnext _ _ _ (by omega) ⟨k + 1, rfl, by omega, fun i hi => by
        rcases Nat.lt_or_ge i k with h1 | h1
        · exact he i h1
        · obtain rfl : i = k := by omega
          assumption, exU rfl, rfl⟩)
    · refine k_put ?_
      refine k_notF rfl zt ?_
      refine k_nil ?_
      refine run_yes ?_
      refine run_seq ?_
      refine rr1 (by kernel_rfl) (by kernel_rfl) ?_
      refine k_as rfl zt ?_
      refine k_nil ?_
      refine run_ret rfl ?_
      refine run_res (h) rfl Tryz.func148 rfl weakSub ?_
      refine hK _ _ ?_
      exact ⟨rfl, IsB.no fun e => absurd (e _ (mem_getD.2 ⟨k, by omega, rfl⟩)) (by assumption)⟩
  · refine k_nil ?_
    refine run_no ?_
    refine run_exit rfl ?_
    refine run_seq ?_
    refine rr1 (by kernel_rfl) (by kernel_rfl) ?_
    refine k_as rfl zt ?_
    refine k_nil ?_
    refine run_ret rfl ?_
    refine run_res (h) rfl Tryz.func148 rfl weakSub ?_
    refine hK _ _ ?_
    exact ⟨rfl, IsB.yes fun y hy => by
      obtain ⟨i, h1, rfl⟩ := mem_getD.1 hy
      exact he i (by omega)⟩
end Go.Proofs
