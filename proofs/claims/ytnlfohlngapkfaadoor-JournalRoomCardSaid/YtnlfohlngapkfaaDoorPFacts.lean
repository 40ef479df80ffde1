/- Contracts of functions of this program, each proved by a walk through its code, and plain lemmas on what they compute; on no condition beyond those that each theorem states. -/
import Derived.Test.YtnlfohlngapkfaaDoorRows
import Derived.Test.YtnlfohlngapkfaaDoorXA
namespace Go.Proofs.YtnlfohlngapkfaaDoor
open Go Go.X
set_option maxRecDepth 100000
set_option linter.unusedVariables false
instance : Sc Tryd.prog 1 := ⟨by kernel_rfl, ⟨_, Tryd.underlying1, rfl⟩⟩
instance : Sz Tryd.prog 1 1 := ⟨by kernel_rfl⟩
instance : By Tryd.prog 1 8 := ⟨by kernel_rfl⟩
instance : Zr Tryd.prog 1 (.nilFunc) := ⟨by kernel_rfl⟩
instance : Zc Tryd.prog 1 [.nilFunc] := ⟨⟨.nilFunc, by kernel_rfl, rfl⟩⟩
instance : Sc Tryd.prog 2 := ⟨by kernel_rfl, ⟨_, Tryd.underlying2, rfl⟩⟩
instance : Sz Tryd.prog 2 1 := ⟨by kernel_rfl⟩
instance : By Tryd.prog 2 8 := ⟨by kernel_rfl⟩
instance : Zr Tryd.prog 2 (.int .i64 0) := ⟨by kernel_rfl⟩
instance : Zc Tryd.prog 2 [.int .i64 0] := ⟨⟨.int .i64 0, by kernel_rfl, rfl⟩⟩
instance : Ity Tryd.prog 2 .i64 := ⟨Tryd.underlying2⟩
instance : Sc Tryd.prog 3 := ⟨by kernel_rfl, ⟨_, Tryd.underlying3, rfl⟩⟩
instance : Sz Tryd.prog 3 1 := ⟨by kernel_rfl⟩
instance : By Tryd.prog 3 8 := ⟨by kernel_rfl⟩
instance : Zr Tryd.prog 3 (.int .i64 0) := ⟨by kernel_rfl⟩
instance : Zc Tryd.prog 3 [.int .i64 0] := ⟨⟨.int .i64 0, by kernel_rfl, rfl⟩⟩
instance : Ity Tryd.prog 3 .i64 := ⟨Tryd.underlying3⟩
instance : Sc Tryd.prog 4 := ⟨by kernel_rfl, ⟨_, Tryd.underlying4, rfl⟩⟩
instance : Sz Tryd.prog 4 1 := ⟨by kernel_rfl⟩
instance : By Tryd.prog 4 1 := ⟨by kernel_rfl⟩
instance : Zr Tryd.prog 4 (.bool false) := ⟨by kernel_rfl⟩
instance : Zc Tryd.prog 4 [.bool false] := ⟨⟨.bool false, by kernel_rfl, rfl⟩⟩
instance : Boo Tryd.prog 4 := ⟨Tryd.underlying4⟩
instance : Sc Tryd.prog 5 := ⟨by kernel_rfl, ⟨_, Tryd.underlying5, rfl⟩⟩
instance : Sz Tryd.prog 5 1 := ⟨by kernel_rfl⟩
instance : By Tryd.prog 5 1 := ⟨by kernel_rfl⟩
instance : Zr Tryd.prog 5 (.int .u8 0) := ⟨by kernel_rfl⟩
instance : Zc Tryd.prog 5 [.int .u8 0] := ⟨⟨.int .u8 0, by kernel_rfl, rfl⟩⟩
instance : Ity Tryd.prog 5 .u8 := ⟨Tryd.underlying5⟩
instance : Sc Tryd.prog 6 := ⟨by kernel_rfl, ⟨_, Tryd.underlying6, rfl⟩⟩
instance : Sz Tryd.prog 6 1 := ⟨by kernel_rfl⟩
instance : By Tryd.prog 6 1 := ⟨by kernel_rfl⟩
instance : Zr Tryd.prog 6 (.int .u8 0) := ⟨by kernel_rfl⟩
instance : Zc Tryd.prog 6 [.int .u8 0] := ⟨⟨.int .u8 0, by kernel_rfl, rfl⟩⟩
instance : Ity Tryd.prog 6 .u8 := ⟨Tryd.underlying6⟩
instance : Ag Tryd.prog 7 4 := ⟨by kernel_rfl, ⟨_, Tryd.underlying7, rfl⟩⟩
instance : Sz Tryd.prog 7 4 := ⟨by kernel_rfl⟩
instance : By Tryd.prog 7 24 := ⟨by kernel_rfl⟩
instance : Zr Tryd.prog 7 (.agg #[.int .i64 0, .int .i64 0, .bool false, .int .u8 0]) := ⟨by kernel_rfl⟩
instance : Zc Tryd.prog 7 [.int .i64 0, .int .i64 0, .bool false, .int .u8 0] := ⟨⟨.agg #[.int .i64 0, .int .i64 0, .bool false, .int .u8 0], by kernel_rfl, rfl⟩⟩
instance : Fi Tryd.prog 7 0 0 2 := ⟨⟨_, _, Tryd.underlying7, rfl, rfl, rfl⟩, ⟨1, by kernel_rfl, by decide⟩⟩
instance : Fi Tryd.prog 7 1 1 3 := ⟨⟨_, _, Tryd.underlying7, rfl, rfl, rfl⟩, ⟨1, by kernel_rfl, by decide⟩⟩
instance : Fi Tryd.prog 7 2 2 4 := ⟨⟨_, _, Tryd.underlying7, rfl, rfl, rfl⟩, ⟨1, by kernel_rfl, by decide⟩⟩
instance : Fi Tryd.prog 7 3 3 6 := ⟨⟨_, _, Tryd.underlying7, rfl, rfl, rfl⟩, ⟨1, by kernel_rfl, by decide⟩⟩
instance : Bd Tryd.prog 7 (fun i : Nat => ([(0, 1), (1, 1), (2, 1), (3, 1)] : List (Nat × Nat))[i]?) (Value.cells (.agg #[.int .i64 0, .int .i64 0, .bool false, .int .u8 0])) := bd_struct Tryd.underlying7 (by kernel_rfl) (by kernel_rfl)
instance : Ag Tryd.prog 8 4 := ⟨by kernel_rfl, ⟨_, Tryd.underlying8, rfl⟩⟩
instance : Sz Tryd.prog 8 4 := ⟨by kernel_rfl⟩
instance : By Tryd.prog 8 24 := ⟨by kernel_rfl⟩
instance : Zr Tryd.prog 8 (.agg #[.int .i64 0, .int .i64 0, .bool false, .int .u8 0]) := ⟨by kernel_rfl⟩
instance : Zc Tryd.prog 8 [.int .i64 0, .int .i64 0, .bool false, .int .u8 0] := ⟨⟨.agg #[.int .i64 0, .int .i64 0, .bool false, .int .u8 0], by kernel_rfl, rfl⟩⟩
instance : Fi Tryd.prog 8 0 0 2 := ⟨⟨_, _, Tryd.underlying8, rfl, rfl, rfl⟩, ⟨1, by kernel_rfl, by decide⟩⟩
instance : Fi Tryd.prog 8 1 1 3 := ⟨⟨_, _, Tryd.underlying8, rfl, rfl, rfl⟩, ⟨1, by kernel_rfl, by decide⟩⟩
instance : Fi Tryd.prog 8 2 2 4 := ⟨⟨_, _, Tryd.underlying8, rfl, rfl, rfl⟩, ⟨1, by kernel_rfl, by decide⟩⟩
instance : Fi Tryd.prog 8 3 3 6 := ⟨⟨_, _, Tryd.underlying8, rfl, rfl, rfl⟩, ⟨1, by kernel_rfl, by decide⟩⟩
instance : Bd Tryd.prog 8 (fun i : Nat => ([(0, 1), (1, 1), (2, 1), (3, 1)] : List (Nat × Nat))[i]?) (Value.cells (.agg #[.int .i64 0, .int .i64 0, .bool false, .int .u8 0])) := bd_struct Tryd.underlying8 (by kernel_rfl) (by kernel_rfl)
instance : Sc Tryd.prog 9 := ⟨by kernel_rfl, ⟨_, Tryd.underlying9, rfl⟩⟩
instance : Sz Tryd.prog 9 1 := ⟨by kernel_rfl⟩
instance : By Tryd.prog 9 16 := ⟨by kernel_rfl⟩
instance : Zr Tryd.prog 9 (.string ByteArray.empty) := ⟨by kernel_rfl⟩
instance : Zc Tryd.prog 9 [.string ByteArray.empty] := ⟨⟨.string ByteArray.empty, by kernel_rfl, rfl⟩⟩
instance : Strg Tryd.prog 9 := ⟨Tryd.underlying9⟩
instance : Sc Tryd.prog 10 := ⟨by kernel_rfl, ⟨_, Tryd.underlying10, rfl⟩⟩
instance : Sz Tryd.prog 10 1 := ⟨by kernel_rfl⟩
instance : By Tryd.prog 10 16 := ⟨by kernel_rfl⟩
instance : Zr Tryd.prog 10 (.string ByteArray.empty) := ⟨by kernel_rfl⟩
instance : Zc Tryd.prog 10 [.string ByteArray.empty] := ⟨⟨.string ByteArray.empty, by kernel_rfl, rfl⟩⟩
instance : Strg Tryd.prog 10 := ⟨Tryd.underlying10⟩
instance : Sc Tryd.prog 11 := ⟨by kernel_rfl, ⟨_, Tryd.underlying11, rfl⟩⟩
instance : Sz Tryd.prog 11 1 := ⟨by kernel_rfl⟩
instance : By Tryd.prog 11 16 := ⟨by kernel_rfl⟩
instance : Zr Tryd.prog 11 (.string ByteArray.empty) := ⟨by kernel_rfl⟩
instance : Zc Tryd.prog 11 [.string ByteArray.empty] := ⟨⟨.string ByteArray.empty, by kernel_rfl, rfl⟩⟩
instance : Strg Tryd.prog 11 := ⟨Tryd.underlying11⟩
instance : Sc Tryd.prog 12 := ⟨by kernel_rfl, ⟨_, Tryd.underlying12, rfl⟩⟩
instance : Sz Tryd.prog 12 1 := ⟨by kernel_rfl⟩
instance : By Tryd.prog 12 8 := ⟨by kernel_rfl⟩
instance : Zr Tryd.prog 12 (.int .u64 0) := ⟨by kernel_rfl⟩
instance : Zc Tryd.prog 12 [.int .u64 0] := ⟨⟨.int .u64 0, by kernel_rfl, rfl⟩⟩
instance : Ity Tryd.prog 12 .u64 := ⟨Tryd.underlying12⟩
instance : Ag Tryd.prog 13 2 := ⟨by kernel_rfl, ⟨_, Tryd.underlying13, rfl⟩⟩
instance : Sz Tryd.prog 13 2 := ⟨by kernel_rfl⟩
instance : By Tryd.prog 13 24 := ⟨by kernel_rfl⟩
instance : Zr Tryd.prog 13 (.agg #[.string ByteArray.empty, .int .u64 0]) := ⟨by kernel_rfl⟩
instance : Zc Tryd.prog 13 [.string ByteArray.empty, .int .u64 0] := ⟨⟨.agg #[.string ByteArray.empty, .int .u64 0], by kernel_rfl, rfl⟩⟩
instance : Fi Tryd.prog 13 0 0 9 := ⟨⟨_, _, Tryd.underlying13, rfl, rfl, rfl⟩, ⟨1, by kernel_rfl, by decide⟩⟩
instance : Fi Tryd.prog 13 1 1 12 := ⟨⟨_, _, Tryd.underlying13, rfl, rfl, rfl⟩, ⟨1, by kernel_rfl, by decide⟩⟩
instance : Bd Tryd.prog 13 (fun i : Nat => ([(0, 1), (1, 1)] : List (Nat × Nat))[i]?) (Value.cells (.agg #[.string ByteArray.empty, .int .u64 0])) := bd_struct Tryd.underlying13 (by kernel_rfl) (by kernel_rfl)
instance : Ag Tryd.prog 14 2 := ⟨by kernel_rfl, ⟨_, Tryd.underlying14, rfl⟩⟩
instance : Sz Tryd.prog 14 2 := ⟨by kernel_rfl⟩
instance : By Tryd.prog 14 24 := ⟨by kernel_rfl⟩
instance : Zr Tryd.prog 14 (.agg #[.string ByteArray.empty, .int .u64 0]) := ⟨by kernel_rfl⟩
instance : Zc Tryd.prog 14 [.string ByteArray.empty, .int .u64 0] := ⟨⟨.agg #[.string ByteArray.empty, .int .u64 0], by kernel_rfl, rfl⟩⟩
instance : Fi Tryd.prog 14 0 0 9 := ⟨⟨_, _, Tryd.underlying14, rfl, rfl, rfl⟩, ⟨1, by kernel_rfl, by decide⟩⟩
instance : Fi Tryd.prog 14 1 1 12 := ⟨⟨_, _, Tryd.underlying14, rfl, rfl, rfl⟩, ⟨1, by kernel_rfl, by decide⟩⟩
instance : Bd Tryd.prog 14 (fun i : Nat => ([(0, 1), (1, 1)] : List (Nat × Nat))[i]?) (Value.cells (.agg #[.string ByteArray.empty, .int .u64 0])) := bd_struct Tryd.underlying14 (by kernel_rfl) (by kernel_rfl)
instance : Sc Tryd.prog 15 := ⟨by kernel_rfl, ⟨_, Tryd.underlying15, rfl⟩⟩
instance : Sz Tryd.prog 15 1 := ⟨by kernel_rfl⟩
instance : By Tryd.prog 15 8 := ⟨by kernel_rfl⟩
instance : Zr Tryd.prog 15 (.pointer none) := ⟨by kernel_rfl⟩
instance : Zc Tryd.prog 15 [.pointer none] := ⟨⟨.pointer none, by kernel_rfl, rfl⟩⟩
instance : Sc Tryd.prog 16 := ⟨by kernel_rfl, ⟨_, Tryd.underlying16, rfl⟩⟩
instance : Sz Tryd.prog 16 1 := ⟨by kernel_rfl⟩
instance : By Tryd.prog 16 8 := ⟨by kernel_rfl⟩
instance : Zr Tryd.prog 16 (.pointer none) := ⟨by kernel_rfl⟩
instance : Zc Tryd.prog 16 [.pointer none] := ⟨⟨.pointer none, by kernel_rfl, rfl⟩⟩
instance : Sc Tryd.prog 17 := ⟨by kernel_rfl, ⟨_, Tryd.underlying17, rfl⟩⟩
instance : Sz Tryd.prog 17 1 := ⟨by kernel_rfl⟩
instance : By Tryd.prog 17 8 := ⟨by kernel_rfl⟩
instance : Zr Tryd.prog 17 (.pointer none) := ⟨by kernel_rfl⟩
instance : Zc Tryd.prog 17 [.pointer none] := ⟨⟨.pointer none, by kernel_rfl, rfl⟩⟩
instance : Ag Tryd.prog 18 1 := ⟨by kernel_rfl, ⟨_, Tryd.underlying18, rfl⟩⟩
instance : Sz Tryd.prog 18 1 := ⟨by kernel_rfl⟩
instance : By Tryd.prog 18 8 := ⟨by kernel_rfl⟩
instance : Zr Tryd.prog 18 (.agg #[.pointer none]) := ⟨by kernel_rfl⟩
instance : Zc Tryd.prog 18 [.pointer none] := ⟨⟨.agg #[.pointer none], by kernel_rfl, rfl⟩⟩
instance : Fi Tryd.prog 18 0 0 17 := ⟨⟨_, _, Tryd.underlying18, rfl, rfl, rfl⟩, ⟨1, by kernel_rfl, by decide⟩⟩
instance : Bd Tryd.prog 18 (fun i : Nat => ([(0, 1)] : List (Nat × Nat))[i]?) (Value.cells (.agg #[.pointer none])) := bd_struct Tryd.underlying18 (by kernel_rfl) (by kernel_rfl)
instance : Ag Tryd.prog 19 1 := ⟨by kernel_rfl, ⟨_, Tryd.underlying19, rfl⟩⟩
instance : Sz Tryd.prog 19 1 := ⟨by kernel_rfl⟩
instance : By Tryd.prog 19 8 := ⟨by kernel_rfl⟩
instance : Zr Tryd.prog 19 (.agg #[.pointer none]) := ⟨by kernel_rfl⟩
instance : Zc Tryd.prog 19 [.pointer none] := ⟨⟨.agg #[.pointer none], by kernel_rfl, rfl⟩⟩
instance : Fi Tryd.prog 19 0 0 17 := ⟨⟨_, _, Tryd.underlying19, rfl, rfl, rfl⟩, ⟨1, by kernel_rfl, by decide⟩⟩
instance : Bd Tryd.prog 19 (fun i : Nat => ([(0, 1)] : List (Nat × Nat))[i]?) (Value.cells (.agg #[.pointer none])) := bd_struct Tryd.underlying19 (by kernel_rfl) (by kernel_rfl)
instance : Sc Tryd.prog 20 := ⟨by kernel_rfl, ⟨_, Tryd.underlying20, rfl⟩⟩
instance : Sz Tryd.prog 20 1 := ⟨by kernel_rfl⟩
instance : By Tryd.prog 20 16 := ⟨by kernel_rfl⟩
instance : Zr Tryd.prog 20 (.nilIface) := ⟨by kernel_rfl⟩
instance : Zc Tryd.prog 20 [.nilIface] := ⟨⟨.nilIface, by kernel_rfl, rfl⟩⟩
instance : Sc Tryd.prog 21 := ⟨by kernel_rfl, ⟨_, Tryd.underlying21, rfl⟩⟩
instance : Sz Tryd.prog 21 1 := ⟨by kernel_rfl⟩
instance : By Tryd.prog 21 4 := ⟨by kernel_rfl⟩
instance : Zr Tryd.prog 21 (.int .i32 0) := ⟨by kernel_rfl⟩
instance : Zc Tryd.prog 21 [.int .i32 0] := ⟨⟨.int .i32 0, by kernel_rfl, rfl⟩⟩
instance : Ity Tryd.prog 21 .i32 := ⟨Tryd.underlying21⟩
instance : Sc Tryd.prog 22 := ⟨by kernel_rfl, ⟨_, Tryd.underlying22, rfl⟩⟩
instance : Sz Tryd.prog 22 1 := ⟨by kernel_rfl⟩
instance : By Tryd.prog 22 24 := ⟨by kernel_rfl⟩
instance : Zr Tryd.prog 22 (.slice none 0 0) := ⟨by kernel_rfl⟩
instance : Zc Tryd.prog 22 [.slice none 0 0] := ⟨⟨.slice none 0 0, by kernel_rfl, rfl⟩⟩
instance : Sli Tryd.prog 22 9 := ⟨Tryd.underlying22⟩
instance : Sc Tryd.prog 23 := ⟨by kernel_rfl, ⟨_, Tryd.underlying23, rfl⟩⟩
instance : Sz Tryd.prog 23 1 := ⟨by kernel_rfl⟩
instance : By Tryd.prog 23 8 := ⟨by kernel_rfl⟩
instance : Zr Tryd.prog 23 (.nilFunc) := ⟨by kernel_rfl⟩
instance : Zc Tryd.prog 23 [.nilFunc] := ⟨⟨.nilFunc, by kernel_rfl, rfl⟩⟩
instance : Sc Tryd.prog 24 := ⟨by kernel_rfl, ⟨_, Tryd.underlying24, rfl⟩⟩
instance : Sz Tryd.prog 24 1 := ⟨by kernel_rfl⟩
instance : By Tryd.prog 24 8 := ⟨by kernel_rfl⟩
instance : Zr Tryd.prog 24 (.pointer none) := ⟨by kernel_rfl⟩
instance : Zc Tryd.prog 24 [.pointer none] := ⟨⟨.pointer none, by kernel_rfl, rfl⟩⟩
instance : Sc Tryd.prog 25 := ⟨by kernel_rfl, ⟨_, Tryd.underlying25, rfl⟩⟩
instance : Sz Tryd.prog 25 1 := ⟨by kernel_rfl⟩
instance : By Tryd.prog 25 8 := ⟨by kernel_rfl⟩
instance : Zr Tryd.prog 25 (.int .i64 0) := ⟨by kernel_rfl⟩
instance : Zc Tryd.prog 25 [.int .i64 0] := ⟨⟨.int .i64 0, by kernel_rfl, rfl⟩⟩
instance : Ity Tryd.prog 25 .i64 := ⟨Tryd.underlying25⟩
instance : Sc Tryd.prog 27 := ⟨by kernel_rfl, ⟨_, Tryd.underlying27, rfl⟩⟩
instance : Sz Tryd.prog 27 1 := ⟨by kernel_rfl⟩
instance : By Tryd.prog 27 8 := ⟨by kernel_rfl⟩
instance : Zr Tryd.prog 27 (.nilFunc) := ⟨by kernel_rfl⟩
instance : Zc Tryd.prog 27 [.nilFunc] := ⟨⟨.nilFunc, by kernel_rfl, rfl⟩⟩
instance : Sc Tryd.prog 28 := ⟨by kernel_rfl, ⟨_, Tryd.underlying28, rfl⟩⟩
instance : Sz Tryd.prog 28 1 := ⟨by kernel_rfl⟩
instance : By Tryd.prog 28 8 := ⟨by kernel_rfl⟩
instance : Zr Tryd.prog 28 (.nilFunc) := ⟨by kernel_rfl⟩
instance : Zc Tryd.prog 28 [.nilFunc] := ⟨⟨.nilFunc, by kernel_rfl, rfl⟩⟩
instance : Sc Tryd.prog 29 := ⟨by kernel_rfl, ⟨_, Tryd.underlying29, rfl⟩⟩
instance : Sz Tryd.prog 29 1 := ⟨by kernel_rfl⟩
instance : By Tryd.prog 29 8 := ⟨by kernel_rfl⟩
instance : Zr Tryd.prog 29 (.pointer none) := ⟨by kernel_rfl⟩
instance : Zc Tryd.prog 29 [.pointer none] := ⟨⟨.pointer none, by kernel_rfl, rfl⟩⟩
instance : Sc Tryd.prog 31 := ⟨by kernel_rfl, ⟨_, Tryd.underlying31, rfl⟩⟩
instance : Sz Tryd.prog 31 1 := ⟨by kernel_rfl⟩
instance : By Tryd.prog 31 8 := ⟨by kernel_rfl⟩
instance : Zr Tryd.prog 31 (.nilFunc) := ⟨by kernel_rfl⟩
instance : Zc Tryd.prog 31 [.nilFunc] := ⟨⟨.nilFunc, by kernel_rfl, rfl⟩⟩
instance : Sc Tryd.prog 32 := ⟨by kernel_rfl, ⟨_, Tryd.underlying32, rfl⟩⟩
instance : Sz Tryd.prog 32 1 := ⟨by kernel_rfl⟩
instance : By Tryd.prog 32 8 := ⟨by kernel_rfl⟩
instance : Zr Tryd.prog 32 (.nilFunc) := ⟨by kernel_rfl⟩
instance : Zc Tryd.prog 32 [.nilFunc] := ⟨⟨.nilFunc, by kernel_rfl, rfl⟩⟩
instance : Sc Tryd.prog 34 := ⟨by kernel_rfl, ⟨_, Tryd.underlying34, rfl⟩⟩
instance : Sz Tryd.prog 34 1 := ⟨by kernel_rfl⟩
instance : By Tryd.prog 34 8 := ⟨by kernel_rfl⟩
instance : Zr Tryd.prog 34 (.nilFunc) := ⟨by kernel_rfl⟩
instance : Zc Tryd.prog 34 [.nilFunc] := ⟨⟨.nilFunc, by kernel_rfl, rfl⟩⟩
instance : Sc Tryd.prog 35 := ⟨by kernel_rfl, ⟨_, Tryd.underlying35, rfl⟩⟩
instance : Sz Tryd.prog 35 1 := ⟨by kernel_rfl⟩
instance : By Tryd.prog 35 8 := ⟨by kernel_rfl⟩
instance : Zr Tryd.prog 35 (.nilFunc) := ⟨by kernel_rfl⟩
instance : Zc Tryd.prog 35 [.nilFunc] := ⟨⟨.nilFunc, by kernel_rfl, rfl⟩⟩
instance : Sc Tryd.prog 36 := ⟨by kernel_rfl, ⟨_, Tryd.underlying36, rfl⟩⟩
instance : Sz Tryd.prog 36 1 := ⟨by kernel_rfl⟩
instance : By Tryd.prog 36 8 := ⟨by kernel_rfl⟩
instance : Zr Tryd.prog 36 (.nilFunc) := ⟨by kernel_rfl⟩
instance : Zc Tryd.prog 36 [.nilFunc] := ⟨⟨.nilFunc, by kernel_rfl, rfl⟩⟩
instance : Sc Tryd.prog 37 := ⟨by kernel_rfl, ⟨_, Tryd.underlying37, rfl⟩⟩
instance : Sz Tryd.prog 37 1 := ⟨by kernel_rfl⟩
instance : By Tryd.prog 37 8 := ⟨by kernel_rfl⟩
instance : Zr Tryd.prog 37 (.nilFunc) := ⟨by kernel_rfl⟩
instance : Zc Tryd.prog 37 [.nilFunc] := ⟨⟨.nilFunc, by kernel_rfl, rfl⟩⟩
instance : Sc Tryd.prog 38 := ⟨by kernel_rfl, ⟨_, Tryd.underlying38, rfl⟩⟩
instance : Sz Tryd.prog 38 1 := ⟨by kernel_rfl⟩
instance : By Tryd.prog 38 24 := ⟨by kernel_rfl⟩
instance : Zr Tryd.prog 38 (.slice none 0 0) := ⟨by kernel_rfl⟩
instance : Zc Tryd.prog 38 [.slice none 0 0] := ⟨⟨.slice none 0 0, by kernel_rfl, rfl⟩⟩
instance : Sli Tryd.prog 38 5 := ⟨Tryd.underlying38⟩
instance : Sc Tryd.prog 39 := ⟨by kernel_rfl, ⟨_, Tryd.underlying39, rfl⟩⟩
instance : Sz Tryd.prog 39 1 := ⟨by kernel_rfl⟩
instance : By Tryd.prog 39 8 := ⟨by kernel_rfl⟩
instance : Zr Tryd.prog 39 (.nilFunc) := ⟨by kernel_rfl⟩
instance : Zc Tryd.prog 39 [.nilFunc] := ⟨⟨.nilFunc, by kernel_rfl, rfl⟩⟩
instance : Sc Tryd.prog 40 := ⟨by kernel_rfl, ⟨_, Tryd.underlying40, rfl⟩⟩
instance : Sz Tryd.prog 40 1 := ⟨by kernel_rfl⟩
instance : By Tryd.prog 40 8 := ⟨by kernel_rfl⟩
instance : Zr Tryd.prog 40 (.nilFunc) := ⟨by kernel_rfl⟩
instance : Zc Tryd.prog 40 [.nilFunc] := ⟨⟨.nilFunc, by kernel_rfl, rfl⟩⟩
instance : Sc Tryd.prog 41 := ⟨by kernel_rfl, ⟨_, Tryd.underlying41, rfl⟩⟩
instance : Sz Tryd.prog 41 1 := ⟨by kernel_rfl⟩
instance : By Tryd.prog 41 8 := ⟨by kernel_rfl⟩
instance : Zr Tryd.prog 41 (.nilFunc) := ⟨by kernel_rfl⟩
instance : Zc Tryd.prog 41 [.nilFunc] := ⟨⟨.nilFunc, by kernel_rfl, rfl⟩⟩
instance : Sc Tryd.prog 42 := ⟨by kernel_rfl, ⟨_, Tryd.underlying42, rfl⟩⟩
instance : Sz Tryd.prog 42 1 := ⟨by kernel_rfl⟩
instance : By Tryd.prog 42 8 := ⟨by kernel_rfl⟩
instance : Zr Tryd.prog 42 (.nilFunc) := ⟨by kernel_rfl⟩
instance : Zc Tryd.prog 42 [.nilFunc] := ⟨⟨.nilFunc, by kernel_rfl, rfl⟩⟩
instance : Sc Tryd.prog 43 := ⟨by kernel_rfl, ⟨_, Tryd.underlying43, rfl⟩⟩
instance : Sz Tryd.prog 43 1 := ⟨by kernel_rfl⟩
instance : By Tryd.prog 43 24 := ⟨by kernel_rfl⟩
instance : Zr Tryd.prog 43 (.slice none 0 0) := ⟨by kernel_rfl⟩
instance : Zc Tryd.prog 43 [.slice none 0 0] := ⟨⟨.slice none 0 0, by kernel_rfl, rfl⟩⟩
instance : Sli Tryd.prog 43 22 := ⟨Tryd.underlying43⟩
instance : Sc Tryd.prog 44 := ⟨by kernel_rfl, ⟨_, Tryd.underlying44, rfl⟩⟩
instance : Sz Tryd.prog 44 1 := ⟨by kernel_rfl⟩
instance : By Tryd.prog 44 8 := ⟨by kernel_rfl⟩
instance : Zr Tryd.prog 44 (.nilFunc) := ⟨by kernel_rfl⟩
instance : Zc Tryd.prog 44 [.nilFunc] := ⟨⟨.nilFunc, by kernel_rfl, rfl⟩⟩
instance : Sc Tryd.prog 45 := ⟨by kernel_rfl, ⟨_, Tryd.underlying45, rfl⟩⟩
instance : Sz Tryd.prog 45 1 := ⟨by kernel_rfl⟩
instance : By Tryd.prog 45 8 := ⟨by kernel_rfl⟩
instance : Zr Tryd.prog 45 (.nilFunc) := ⟨by kernel_rfl⟩
instance : Zc Tryd.prog 45 [.nilFunc] := ⟨⟨.nilFunc, by kernel_rfl, rfl⟩⟩
instance : Sc Tryd.prog 46 := ⟨by kernel_rfl, ⟨_, Tryd.underlying46, rfl⟩⟩
instance : Sz Tryd.prog 46 1 := ⟨by kernel_rfl⟩
instance : By Tryd.prog 46 8 := ⟨by kernel_rfl⟩
instance : Zr Tryd.prog 46 (.nilFunc) := ⟨by kernel_rfl⟩
instance : Zc Tryd.prog 46 [.nilFunc] := ⟨⟨.nilFunc, by kernel_rfl, rfl⟩⟩
instance : Ag Tryd.prog 47 2 := ⟨by kernel_rfl, ⟨_, Tryd.underlying47, rfl⟩⟩
instance : Sz Tryd.prog 47 2 := ⟨by kernel_rfl⟩
instance : By Tryd.prog 47 16 := ⟨by kernel_rfl⟩
instance : Zr Tryd.prog 47 (.agg #[.bool false, .int .i64 0]) := ⟨by kernel_rfl⟩
instance : Zc Tryd.prog 47 [.bool false, .int .i64 0] := ⟨⟨.agg #[.bool false, .int .i64 0], by kernel_rfl, rfl⟩⟩
instance : Fi Tryd.prog 47 0 0 4 := ⟨⟨_, _, Tryd.underlying47, rfl, rfl, rfl⟩, ⟨1, by kernel_rfl, by decide⟩⟩
instance : Fi Tryd.prog 47 1 1 3 := ⟨⟨_, _, Tryd.underlying47, rfl, rfl, rfl⟩, ⟨1, by kernel_rfl, by decide⟩⟩
instance : Bd Tryd.prog 47 (fun i : Nat => ([(0, 1), (1, 1)] : List (Nat × Nat))[i]?) (Value.cells (.agg #[.bool false, .int .i64 0])) := bd_struct Tryd.underlying47 (by kernel_rfl) (by kernel_rfl)
instance : Ag Tryd.prog 48 2 := ⟨by kernel_rfl, ⟨_, Tryd.underlying48, rfl⟩⟩
instance : Sz Tryd.prog 48 2 := ⟨by kernel_rfl⟩
instance : By Tryd.prog 48 16 := ⟨by kernel_rfl⟩
instance : Zr Tryd.prog 48 (.agg #[.bool false, .int .i64 0]) := ⟨by kernel_rfl⟩
instance : Zc Tryd.prog 48 [.bool false, .int .i64 0] := ⟨⟨.agg #[.bool false, .int .i64 0], by kernel_rfl, rfl⟩⟩
instance : Fi Tryd.prog 48 0 0 4 := ⟨⟨_, _, Tryd.underlying48, rfl, rfl, rfl⟩, ⟨1, by kernel_rfl, by decide⟩⟩
instance : Fi Tryd.prog 48 1 1 3 := ⟨⟨_, _, Tryd.underlying48, rfl, rfl, rfl⟩, ⟨1, by kernel_rfl, by decide⟩⟩
instance : Bd Tryd.prog 48 (fun i : Nat => ([(0, 1), (1, 1)] : List (Nat × Nat))[i]?) (Value.cells (.agg #[.bool false, .int .i64 0])) := bd_struct Tryd.underlying48 (by kernel_rfl) (by kernel_rfl)
instance : Sc Tryd.prog 49 := ⟨by kernel_rfl, ⟨_, Tryd.underlying49, rfl⟩⟩
instance : Sz Tryd.prog 49 1 := ⟨by kernel_rfl⟩
instance : By Tryd.prog 49 24 := ⟨by kernel_rfl⟩
instance : Zr Tryd.prog 49 (.slice none 0 0) := ⟨by kernel_rfl⟩
instance : Zc Tryd.prog 49 [.slice none 0 0] := ⟨⟨.slice none 0 0, by kernel_rfl, rfl⟩⟩
instance : Sli Tryd.prog 49 76 := ⟨Tryd.underlying49⟩
instance : Ag Tryd.prog 50 5 := ⟨by kernel_rfl, ⟨_, Tryd.underlying50, rfl⟩⟩
instance : Sz Tryd.prog 50 5 := ⟨by kernel_rfl⟩
instance : By Tryd.prog 50 88 := ⟨by kernel_rfl⟩
instance : Zr Tryd.prog 50 (.agg #[.bool false, .int .i64 0, .slice none 0 0, .slice none 0 0, .slice none 0 0]) := ⟨by kernel_rfl⟩
instance : Zc Tryd.prog 50 [.bool false, .int .i64 0, .slice none 0 0, .slice none 0 0, .slice none 0 0] := ⟨⟨.agg #[.bool false, .int .i64 0, .slice none 0 0, .slice none 0 0, .slice none 0 0], by kernel_rfl, rfl⟩⟩
instance : Fi Tryd.prog 50 0 0 48 := ⟨⟨_, _, Tryd.underlying50, rfl, rfl, rfl⟩, ⟨2, by kernel_rfl, by decide⟩⟩
instance : Fi Tryd.prog 50 1 2 38 := ⟨⟨_, _, Tryd.underlying50, rfl, rfl, rfl⟩, ⟨1, by kernel_rfl, by decide⟩⟩
instance : Fi Tryd.prog 50 2 3 38 := ⟨⟨_, _, Tryd.underlying50, rfl, rfl, rfl⟩, ⟨1, by kernel_rfl, by decide⟩⟩
instance : Fi Tryd.prog 50 3 4 49 := ⟨⟨_, _, Tryd.underlying50, rfl, rfl, rfl⟩, ⟨1, by kernel_rfl, by decide⟩⟩
instance : Bd Tryd.prog 50 (fun i : Nat => ([(0, 2), (2, 1), (3, 1), (4, 1)] : List (Nat × Nat))[i]?) (Value.cells (.agg #[.bool false, .int .i64 0, .slice none 0 0, .slice none 0 0, .slice none 0 0])) := bd_struct Tryd.underlying50 (by kernel_rfl) (by kernel_rfl)
instance : Ag Tryd.prog 51 5 := ⟨by kernel_rfl, ⟨_, Tryd.underlying51, rfl⟩⟩
instance : Sz Tryd.prog 51 5 := ⟨by kernel_rfl⟩
instance : By Tryd.prog 51 88 := ⟨by kernel_rfl⟩
instance : Zr Tryd.prog 51 (.agg #[.bool false, .int .i64 0, .slice none 0 0, .slice none 0 0, .slice none 0 0]) := ⟨by kernel_rfl⟩
instance : Zc Tryd.prog 51 [.bool false, .int .i64 0, .slice none 0 0, .slice none 0 0, .slice none 0 0] := ⟨⟨.agg #[.bool false, .int .i64 0, .slice none 0 0, .slice none 0 0, .slice none 0 0], by kernel_rfl, rfl⟩⟩
instance : Fi Tryd.prog 51 0 0 48 := ⟨⟨_, _, Tryd.underlying51, rfl, rfl, rfl⟩, ⟨2, by kernel_rfl, by decide⟩⟩
instance : Fi Tryd.prog 51 1 2 38 := ⟨⟨_, _, Tryd.underlying51, rfl, rfl, rfl⟩, ⟨1, by kernel_rfl, by decide⟩⟩
instance : Fi Tryd.prog 51 2 3 38 := ⟨⟨_, _, Tryd.underlying51, rfl, rfl, rfl⟩, ⟨1, by kernel_rfl, by decide⟩⟩
instance : Fi Tryd.prog 51 3 4 49 := ⟨⟨_, _, Tryd.underlying51, rfl, rfl, rfl⟩, ⟨1, by kernel_rfl, by decide⟩⟩
instance : Bd Tryd.prog 51 (fun i : Nat => ([(0, 2), (2, 1), (3, 1), (4, 1)] : List (Nat × Nat))[i]?) (Value.cells (.agg #[.bool false, .int .i64 0, .slice none 0 0, .slice none 0 0, .slice none 0 0])) := bd_struct Tryd.underlying51 (by kernel_rfl) (by kernel_rfl)
instance : Sc Tryd.prog 52 := ⟨by kernel_rfl, ⟨_, Tryd.underlying52, rfl⟩⟩
instance : Sz Tryd.prog 52 1 := ⟨by kernel_rfl⟩
instance : By Tryd.prog 52 8 := ⟨by kernel_rfl⟩
instance : Zr Tryd.prog 52 (.nilFunc) := ⟨by kernel_rfl⟩
instance : Zc Tryd.prog 52 [.nilFunc] := ⟨⟨.nilFunc, by kernel_rfl, rfl⟩⟩
instance : Sc Tryd.prog 53 := ⟨by kernel_rfl, ⟨_, Tryd.underlying53, rfl⟩⟩
instance : Sz Tryd.prog 53 1 := ⟨by kernel_rfl⟩
instance : By Tryd.prog 53 8 := ⟨by kernel_rfl⟩
instance : Zr Tryd.prog 53 (.nilFunc) := ⟨by kernel_rfl⟩
instance : Zc Tryd.prog 53 [.nilFunc] := ⟨⟨.nilFunc, by kernel_rfl, rfl⟩⟩
instance : Sc Tryd.prog 54 := ⟨by kernel_rfl, ⟨_, Tryd.underlying54, rfl⟩⟩
instance : Sz Tryd.prog 54 1 := ⟨by kernel_rfl⟩
instance : By Tryd.prog 54 8 := ⟨by kernel_rfl⟩
instance : Zr Tryd.prog 54 (.nilFunc) := ⟨by kernel_rfl⟩
instance : Zc Tryd.prog 54 [.nilFunc] := ⟨⟨.nilFunc, by kernel_rfl, rfl⟩⟩
instance : Ag Tryd.prog 55 3 := ⟨by kernel_rfl, ⟨_, Tryd.underlying55, rfl⟩⟩
instance : Sz Tryd.prog 55 3 := ⟨by kernel_rfl⟩
instance : By Tryd.prog 55 48 := ⟨by kernel_rfl⟩
instance : Zr Tryd.prog 55 (.agg #[.slice none 0 0, .string ByteArray.empty, .int .i64 0]) := ⟨by kernel_rfl⟩
instance : Zc Tryd.prog 55 [.slice none 0 0, .string ByteArray.empty, .int .i64 0] := ⟨⟨.agg #[.slice none 0 0, .string ByteArray.empty, .int .i64 0], by kernel_rfl, rfl⟩⟩
instance : Fi Tryd.prog 55 0 0 22 := ⟨⟨_, _, Tryd.underlying55, rfl, rfl, rfl⟩, ⟨1, by kernel_rfl, by decide⟩⟩
instance : Fi Tryd.prog 55 1 1 9 := ⟨⟨_, _, Tryd.underlying55, rfl, rfl, rfl⟩, ⟨1, by kernel_rfl, by decide⟩⟩
instance : Fi Tryd.prog 55 2 2 3 := ⟨⟨_, _, Tryd.underlying55, rfl, rfl, rfl⟩, ⟨1, by kernel_rfl, by decide⟩⟩
instance : Bd Tryd.prog 55 (fun i : Nat => ([(0, 1), (1, 1), (2, 1)] : List (Nat × Nat))[i]?) (Value.cells (.agg #[.slice none 0 0, .string ByteArray.empty, .int .i64 0])) := bd_struct Tryd.underlying55 (by kernel_rfl) (by kernel_rfl)
instance : Ag Tryd.prog 56 3 := ⟨by kernel_rfl, ⟨_, Tryd.underlying56, rfl⟩⟩
instance : Sz Tryd.prog 56 3 := ⟨by kernel_rfl⟩
instance : By Tryd.prog 56 48 := ⟨by kernel_rfl⟩
instance : Zr Tryd.prog 56 (.agg #[.slice none 0 0, .string ByteArray.empty, .int .i64 0]) := ⟨by kernel_rfl⟩
instance : Zc Tryd.prog 56 [.slice none 0 0, .string ByteArray.empty, .int .i64 0] := ⟨⟨.agg #[.slice none 0 0, .string ByteArray.empty, .int .i64 0], by kernel_rfl, rfl⟩⟩
instance : Fi Tryd.prog 56 0 0 22 := ⟨⟨_, _, Tryd.underlying56, rfl, rfl, rfl⟩, ⟨1, by kernel_rfl, by decide⟩⟩
instance : Fi Tryd.prog 56 1 1 9 := ⟨⟨_, _, Tryd.underlying56, rfl, rfl, rfl⟩, ⟨1, by kernel_rfl, by decide⟩⟩
instance : Fi Tryd.prog 56 2 2 3 := ⟨⟨_, _, Tryd.underlying56, rfl, rfl, rfl⟩, ⟨1, by kernel_rfl, by decide⟩⟩
instance : Bd Tryd.prog 56 (fun i : Nat => ([(0, 1), (1, 1), (2, 1)] : List (Nat × Nat))[i]?) (Value.cells (.agg #[.slice none 0 0, .string ByteArray.empty, .int .i64 0])) := bd_struct Tryd.underlying56 (by kernel_rfl) (by kernel_rfl)
instance : Ag Tryd.prog 57 5 := ⟨by kernel_rfl, ⟨_, Tryd.underlying57, rfl⟩⟩
instance : Sz Tryd.prog 57 5 := ⟨by kernel_rfl⟩
instance : By Tryd.prog 57 64 := ⟨by kernel_rfl⟩
instance : Zr Tryd.prog 57 (.agg #[.slice none 0 0, .string ByteArray.empty, .int .i64 0, .pointer none, .bool false]) := ⟨by kernel_rfl⟩
instance : Zc Tryd.prog 57 [.slice none 0 0, .string ByteArray.empty, .int .i64 0, .pointer none, .bool false] := ⟨⟨.agg #[.slice none 0 0, .string ByteArray.empty, .int .i64 0, .pointer none, .bool false], by kernel_rfl, rfl⟩⟩
instance : Fi Tryd.prog 57 0 0 56 := ⟨⟨_, _, Tryd.underlying57, rfl, rfl, rfl⟩, ⟨3, by kernel_rfl, by decide⟩⟩
instance : Fi Tryd.prog 57 1 3 24 := ⟨⟨_, _, Tryd.underlying57, rfl, rfl, rfl⟩, ⟨1, by kernel_rfl, by decide⟩⟩
instance : Fi Tryd.prog 57 2 4 4 := ⟨⟨_, _, Tryd.underlying57, rfl, rfl, rfl⟩, ⟨1, by kernel_rfl, by decide⟩⟩
instance : Bd Tryd.prog 57 (fun i : Nat => ([(0, 3), (3, 1), (4, 1)] : List (Nat × Nat))[i]?) (Value.cells (.agg #[.slice none 0 0, .string ByteArray.empty, .int .i64 0, .pointer none, .bool false])) := bd_struct Tryd.underlying57 (by kernel_rfl) (by kernel_rfl)
instance : Ag Tryd.prog 58 5 := ⟨by kernel_rfl, ⟨_, Tryd.underlying58, rfl⟩⟩
instance : Sz Tryd.prog 58 5 := ⟨by kernel_rfl⟩
instance : By Tryd.prog 58 64 := ⟨by kernel_rfl⟩
instance : Zr Tryd.prog 58 (.agg #[.slice none 0 0, .string ByteArray.empty, .int .i64 0, .pointer none, .bool false]) := ⟨by kernel_rfl⟩
instance : Zc Tryd.prog 58 [.slice none 0 0, .string ByteArray.empty, .int .i64 0, .pointer none, .bool false] := ⟨⟨.agg #[.slice none 0 0, .string ByteArray.empty, .int .i64 0, .pointer none, .bool false], by kernel_rfl, rfl⟩⟩
instance : Fi Tryd.prog 58 0 0 56 := ⟨⟨_, _, Tryd.underlying58, rfl, rfl, rfl⟩, ⟨3, by kernel_rfl, by decide⟩⟩
instance : Fi Tryd.prog 58 1 3 24 := ⟨⟨_, _, Tryd.underlying58, rfl, rfl, rfl⟩, ⟨1, by kernel_rfl, by decide⟩⟩
instance : Fi Tryd.prog 58 2 4 4 := ⟨⟨_, _, Tryd.underlying58, rfl, rfl, rfl⟩, ⟨1, by kernel_rfl, by decide⟩⟩
instance : Bd Tryd.prog 58 (fun i : Nat => ([(0, 3), (3, 1), (4, 1)] : List (Nat × Nat))[i]?) (Value.cells (.agg #[.slice none 0 0, .string ByteArray.empty, .int .i64 0, .pointer none, .bool false])) := bd_struct Tryd.underlying58 (by kernel_rfl) (by kernel_rfl)
instance : Sc Tryd.prog 59 := ⟨by kernel_rfl, ⟨_, Tryd.underlying59, rfl⟩⟩
instance : Sz Tryd.prog 59 1 := ⟨by kernel_rfl⟩
instance : By Tryd.prog 59 8 := ⟨by kernel_rfl⟩
instance : Zr Tryd.prog 59 (.nilFunc) := ⟨by kernel_rfl⟩
instance : Zc Tryd.prog 59 [.nilFunc] := ⟨⟨.nilFunc, by kernel_rfl, rfl⟩⟩
instance : Sc Tryd.prog 60 := ⟨by kernel_rfl, ⟨_, Tryd.underlying60, rfl⟩⟩
instance : Sz Tryd.prog 60 1 := ⟨by kernel_rfl⟩
instance : By Tryd.prog 60 8 := ⟨by kernel_rfl⟩
instance : Zr Tryd.prog 60 (.nilFunc) := ⟨by kernel_rfl⟩
instance : Zc Tryd.prog 60 [.nilFunc] := ⟨⟨.nilFunc, by kernel_rfl, rfl⟩⟩
instance : Sc Tryd.prog 61 := ⟨by kernel_rfl, ⟨_, Tryd.underlying61, rfl⟩⟩
instance : Sz Tryd.prog 61 1 := ⟨by kernel_rfl⟩
instance : By Tryd.prog 61 8 := ⟨by kernel_rfl⟩
instance : Zr Tryd.prog 61 (.nilFunc) := ⟨by kernel_rfl⟩
instance : Zc Tryd.prog 61 [.nilFunc] := ⟨⟨.nilFunc, by kernel_rfl, rfl⟩⟩
instance : Sc Tryd.prog 62 := ⟨by kernel_rfl, ⟨_, Tryd.underlying62, rfl⟩⟩
instance : Sz Tryd.prog 62 1 := ⟨by kernel_rfl⟩
instance : By Tryd.prog 62 8 := ⟨by kernel_rfl⟩
instance : Zr Tryd.prog 62 (.nilFunc) := ⟨by kernel_rfl⟩
instance : Zc Tryd.prog 62 [.nilFunc] := ⟨⟨.nilFunc, by kernel_rfl, rfl⟩⟩
instance : Sc Tryd.prog 63 := ⟨by kernel_rfl, ⟨_, Tryd.underlying63, rfl⟩⟩
instance : Sz Tryd.prog 63 1 := ⟨by kernel_rfl⟩
instance : By Tryd.prog 63 8 := ⟨by kernel_rfl⟩
instance : Zr Tryd.prog 63 (.nilFunc) := ⟨by kernel_rfl⟩
instance : Zc Tryd.prog 63 [.nilFunc] := ⟨⟨.nilFunc, by kernel_rfl, rfl⟩⟩
instance : Sc Tryd.prog 64 := ⟨by kernel_rfl, ⟨_, Tryd.underlying64, rfl⟩⟩
instance : Sz Tryd.prog 64 1 := ⟨by kernel_rfl⟩
instance : By Tryd.prog 64 8 := ⟨by kernel_rfl⟩
instance : Zr Tryd.prog 64 (.nilFunc) := ⟨by kernel_rfl⟩
instance : Zc Tryd.prog 64 [.nilFunc] := ⟨⟨.nilFunc, by kernel_rfl, rfl⟩⟩
instance : Sc Tryd.prog 65 := ⟨by kernel_rfl, ⟨_, Tryd.underlying65, rfl⟩⟩
instance : Sz Tryd.prog 65 1 := ⟨by kernel_rfl⟩
instance : By Tryd.prog 65 8 := ⟨by kernel_rfl⟩
instance : Zr Tryd.prog 65 (.pointer none) := ⟨by kernel_rfl⟩
instance : Zc Tryd.prog 65 [.pointer none] := ⟨⟨.pointer none, by kernel_rfl, rfl⟩⟩
instance : Ag Tryd.prog 66 2 := ⟨by kernel_rfl, ⟨_, Tryd.underlying66, rfl⟩⟩
instance : Sz Tryd.prog 66 2 := ⟨by kernel_rfl⟩
instance : By Tryd.prog 66 32 := ⟨by kernel_rfl⟩
instance : Zr Tryd.prog 66 (.agg #[.pointer none, .slice none 0 0]) := ⟨by kernel_rfl⟩
instance : Zc Tryd.prog 66 [.pointer none, .slice none 0 0] := ⟨⟨.agg #[.pointer none, .slice none 0 0], by kernel_rfl, rfl⟩⟩
instance : Fi Tryd.prog 66 0 0 65 := ⟨⟨_, _, Tryd.underlying66, rfl, rfl, rfl⟩, ⟨1, by kernel_rfl, by decide⟩⟩
instance : Fi Tryd.prog 66 1 1 38 := ⟨⟨_, _, Tryd.underlying66, rfl, rfl, rfl⟩, ⟨1, by kernel_rfl, by decide⟩⟩
instance : Bd Tryd.prog 66 (fun i : Nat => ([(0, 1), (1, 1)] : List (Nat × Nat))[i]?) (Value.cells (.agg #[.pointer none, .slice none 0 0])) := bd_struct Tryd.underlying66 (by kernel_rfl) (by kernel_rfl)
instance : Ag Tryd.prog 67 2 := ⟨by kernel_rfl, ⟨_, Tryd.underlying67, rfl⟩⟩
instance : Sz Tryd.prog 67 2 := ⟨by kernel_rfl⟩
instance : By Tryd.prog 67 32 := ⟨by kernel_rfl⟩
instance : Zr Tryd.prog 67 (.agg #[.pointer none, .slice none 0 0]) := ⟨by kernel_rfl⟩
instance : Zc Tryd.prog 67 [.pointer none, .slice none 0 0] := ⟨⟨.agg #[.pointer none, .slice none 0 0], by kernel_rfl, rfl⟩⟩
instance : Fi Tryd.prog 67 0 0 65 := ⟨⟨_, _, Tryd.underlying67, rfl, rfl, rfl⟩, ⟨1, by kernel_rfl, by decide⟩⟩
instance : Fi Tryd.prog 67 1 1 38 := ⟨⟨_, _, Tryd.underlying67, rfl, rfl, rfl⟩, ⟨1, by kernel_rfl, by decide⟩⟩
instance : Bd Tryd.prog 67 (fun i : Nat => ([(0, 1), (1, 1)] : List (Nat × Nat))[i]?) (Value.cells (.agg #[.pointer none, .slice none 0 0])) := bd_struct Tryd.underlying67 (by kernel_rfl) (by kernel_rfl)
instance : Sc Tryd.prog 68 := ⟨by kernel_rfl, ⟨_, Tryd.underlying68, rfl⟩⟩
instance : Sz Tryd.prog 68 1 := ⟨by kernel_rfl⟩
instance : By Tryd.prog 68 16 := ⟨by kernel_rfl⟩
instance : Zr Tryd.prog 68 (.nilIface) := ⟨by kernel_rfl⟩
instance : Zc Tryd.prog 68 [.nilIface] := ⟨⟨.nilIface, by kernel_rfl, rfl⟩⟩
instance : Sc Tryd.prog 69 := ⟨by kernel_rfl, ⟨_, Tryd.underlying69, rfl⟩⟩
instance : Sz Tryd.prog 69 1 := ⟨by kernel_rfl⟩
instance : By Tryd.prog 69 16 := ⟨by kernel_rfl⟩
instance : Zr Tryd.prog 69 (.nilIface) := ⟨by kernel_rfl⟩
instance : Zc Tryd.prog 69 [.nilIface] := ⟨⟨.nilIface, by kernel_rfl, rfl⟩⟩
instance : Sc Tryd.prog 71 := ⟨by kernel_rfl, ⟨_, Tryd.underlying71, rfl⟩⟩
instance : Sz Tryd.prog 71 1 := ⟨by kernel_rfl⟩
instance : By Tryd.prog 71 8 := ⟨by kernel_rfl⟩
instance : Zr Tryd.prog 71 (.nilFunc) := ⟨by kernel_rfl⟩
instance : Zc Tryd.prog 71 [.nilFunc] := ⟨⟨.nilFunc, by kernel_rfl, rfl⟩⟩
instance : Sc Tryd.prog 72 := ⟨by kernel_rfl, ⟨_, Tryd.underlying72, rfl⟩⟩
instance : Sz Tryd.prog 72 1 := ⟨by kernel_rfl⟩
instance : By Tryd.prog 72 8 := ⟨by kernel_rfl⟩
instance : Zr Tryd.prog 72 (.nilFunc) := ⟨by kernel_rfl⟩
instance : Zc Tryd.prog 72 [.nilFunc] := ⟨⟨.nilFunc, by kernel_rfl, rfl⟩⟩
instance : Sc Tryd.prog 73 := ⟨by kernel_rfl, ⟨_, Tryd.underlying73, rfl⟩⟩
instance : Sz Tryd.prog 73 1 := ⟨by kernel_rfl⟩
instance : By Tryd.prog 73 8 := ⟨by kernel_rfl⟩
instance : Zr Tryd.prog 73 (.nilFunc) := ⟨by kernel_rfl⟩
instance : Zc Tryd.prog 73 [.nilFunc] := ⟨⟨.nilFunc, by kernel_rfl, rfl⟩⟩
instance : Sc Tryd.prog 74 := ⟨by kernel_rfl, ⟨_, Tryd.underlying74, rfl⟩⟩
instance : Sz Tryd.prog 74 1 := ⟨by kernel_rfl⟩
instance : By Tryd.prog 74 8 := ⟨by kernel_rfl⟩
instance : Zr Tryd.prog 74 (.nilFunc) := ⟨by kernel_rfl⟩
instance : Zc Tryd.prog 74 [.nilFunc] := ⟨⟨.nilFunc, by kernel_rfl, rfl⟩⟩
instance : Ag Tryd.prog 75 2 := ⟨by kernel_rfl, ⟨_, Tryd.underlying75, rfl⟩⟩
instance : Sz Tryd.prog 75 2 := ⟨by kernel_rfl⟩
instance : By Tryd.prog 75 24 := ⟨by kernel_rfl⟩
instance : Zr Tryd.prog 75 (.agg #[.int .i64 0, .string ByteArray.empty]) := ⟨by kernel_rfl⟩
instance : Zc Tryd.prog 75 [.int .i64 0, .string ByteArray.empty] := ⟨⟨.agg #[.int .i64 0, .string ByteArray.empty], by kernel_rfl, rfl⟩⟩
instance : Fi Tryd.prog 75 0 0 3 := ⟨⟨_, _, Tryd.underlying75, rfl, rfl, rfl⟩, ⟨1, by kernel_rfl, by decide⟩⟩
instance : Fi Tryd.prog 75 1 1 9 := ⟨⟨_, _, Tryd.underlying75, rfl, rfl, rfl⟩, ⟨1, by kernel_rfl, by decide⟩⟩
instance : Bd Tryd.prog 75 (fun i : Nat => ([(0, 1), (1, 1)] : List (Nat × Nat))[i]?) (Value.cells (.agg #[.int .i64 0, .string ByteArray.empty])) := bd_struct Tryd.underlying75 (by kernel_rfl) (by kernel_rfl)
instance : Ag Tryd.prog 76 2 := ⟨by kernel_rfl, ⟨_, Tryd.underlying76, rfl⟩⟩
instance : Sz Tryd.prog 76 2 := ⟨by kernel_rfl⟩
instance : By Tryd.prog 76 24 := ⟨by kernel_rfl⟩
instance : Zr Tryd.prog 76 (.agg #[.int .i64 0, .string ByteArray.empty]) := ⟨by kernel_rfl⟩
instance : Zc Tryd.prog 76 [.int .i64 0, .string ByteArray.empty] := ⟨⟨.agg #[.int .i64 0, .string ByteArray.empty], by kernel_rfl, rfl⟩⟩
instance : Fi Tryd.prog 76 0 0 3 := ⟨⟨_, _, Tryd.underlying76, rfl, rfl, rfl⟩, ⟨1, by kernel_rfl, by decide⟩⟩
instance : Fi Tryd.prog 76 1 1 9 := ⟨⟨_, _, Tryd.underlying76, rfl, rfl, rfl⟩, ⟨1, by kernel_rfl, by decide⟩⟩
instance : Bd Tryd.prog 76 (fun i : Nat => ([(0, 1), (1, 1)] : List (Nat × Nat))[i]?) (Value.cells (.agg #[.int .i64 0, .string ByteArray.empty])) := bd_struct Tryd.underlying76 (by kernel_rfl) (by kernel_rfl)
instance : Sc Tryd.prog 77 := ⟨by kernel_rfl, ⟨_, Tryd.underlying77, rfl⟩⟩
instance : Sz Tryd.prog 77 1 := ⟨by kernel_rfl⟩
instance : By Tryd.prog 77 8 := ⟨by kernel_rfl⟩
instance : Zr Tryd.prog 77 (.nilFunc) := ⟨by kernel_rfl⟩
instance : Zc Tryd.prog 77 [.nilFunc] := ⟨⟨.nilFunc, by kernel_rfl, rfl⟩⟩
instance : Sc Tryd.prog 79 := ⟨by kernel_rfl, ⟨_, Tryd.underlying79, rfl⟩⟩
instance : Sz Tryd.prog 79 1 := ⟨by kernel_rfl⟩
instance : By Tryd.prog 79 8 := ⟨by kernel_rfl⟩
instance : Zr Tryd.prog 79 (.nilFunc) := ⟨by kernel_rfl⟩
instance : Zc Tryd.prog 79 [.nilFunc] := ⟨⟨.nilFunc, by kernel_rfl, rfl⟩⟩
instance : Sc Tryd.prog 80 := ⟨by kernel_rfl, ⟨_, Tryd.underlying80, rfl⟩⟩
instance : Sz Tryd.prog 80 1 := ⟨by kernel_rfl⟩
instance : By Tryd.prog 80 8 := ⟨by kernel_rfl⟩
instance : Zr Tryd.prog 80 (.nilFunc) := ⟨by kernel_rfl⟩
instance : Zc Tryd.prog 80 [.nilFunc] := ⟨⟨.nilFunc, by kernel_rfl, rfl⟩⟩
instance : Sc Tryd.prog 81 := ⟨by kernel_rfl, ⟨_, Tryd.underlying81, rfl⟩⟩
instance : Sz Tryd.prog 81 1 := ⟨by kernel_rfl⟩
instance : By Tryd.prog 81 8 := ⟨by kernel_rfl⟩
instance : Zr Tryd.prog 81 (.nilFunc) := ⟨by kernel_rfl⟩
instance : Zc Tryd.prog 81 [.nilFunc] := ⟨⟨.nilFunc, by kernel_rfl, rfl⟩⟩
instance : Ag Tryd.prog 82 256 := ⟨by kernel_rfl, ⟨_, Tryd.underlying82, rfl⟩⟩
instance : Sz Tryd.prog 82 256 := ⟨by kernel_rfl⟩
instance : By Tryd.prog 82 256 := ⟨by kernel_rfl⟩
instance : Zr Tryd.prog 82 (.agg #[.bool false, .bool false, .bool false, .bool false, .bool false, .bool false, .bool false, .bool false, .bool false, .bool false, .bool false, .bool false, .bool false, .bool false, .bool false, .bool false, .bool false, .bool false, .bool false, .bool false, .bool false, .bool false, .bool false, .bool false, .bool false, .bool false, .bool false, .bool false, .bool false, .bool false, .bool false, .bool false, .bool false, .bool false, .bool false, .bool false, .bool false, .bool false, .bool false, .bool false, .bool false, .bool false, .bool false, .bool false, .bool false, .bool false, .bool false, .bool false, .bool false, .bool false, .bool false, .bool false, .bool false, .bool false, .bool false, .bool false, .bool false, .bool false, .bool false, .bool false, .bool false, .bool false, .bool false, .bool false, .bool false, .bool false, .bool false, .bool false, .bool false, .bool false, .bool false, .bool false, .bool false, .bool false, .bool false, .bool false, .bool false, .bool false, .bool false, .bool false, .bool false, .bool false, .bool false, .bool false, .bool false, .bool false, .bool false, .bool false, .bool false, .bool false, .bool false, .bool false, .bool false, .bool false, .bool false, .bool false, .bool false, .bool false, .bool false, .bool false, .bool false, .bool false, .bool false, .bool false, .bool false, .bool false, .bool false, .bool false, .bool false, .bool false, .bool false, .bool false, .bool false, .bool false, .bool false, .bool false, .bool false, .bool false, .bool false, .bool false, .bool false, .bool false, .bool false, .bool false, .bool false, .bool false, .bool false, .bool false, .bool false, .bool false, .bool false, .bool false, .bool false, .bool false, .bool false, .bool false, .bool false, .bool false, .bool false, .bool false, .bool false, .bool false, .bool false, .bool false, .bool false, .bool false, .bool false, .bool false, .bool false, .bool false, .bool false, .bool false, .bool false, .bool false, .bool false, .bool false, .bool false, .bool false, .bool false, .bool false, .bool false, .bool false, .bool false, .bool false, .bool false, .bool false, .bool false, .bool false, .bool false, .bool false, .bool false, .bool false, .bool false, .bool false, .bool false, .bool false, .bool false, .bool false, .bool false, .bool false, .bool false, .bool false, .bool false, .bool false, .bool false, .bool false, .bool false, .bool false, .bool false, .bool false, .bool false, .bool false, .bool false, .bool false, .bool false, .bool false, .bool false, .bool false, .bool false, .bool false, .bool false, .bool false, .bool false, .bool false, .bool false, .bool false, .bool false, .bool false, .bool false, .bool false, .bool false, .bool false, .bool false, .bool false, .bool false, .bool false, .bool false, .bool false, .bool false, .bool false, .bool false, .bool false, .bool false, .bool false, .bool false, .bool false, .bool false, .bool false, .bool false, .bool false, .bool false, .bool false, .bool false, .bool false, .bool false, .bool false, .bool false, .bool false, .bool false, .bool false, .bool false, .bool false, .bool false, .bool false, .bool false, .bool false, .bool false, .bool false, .bool false, .bool false, .bool false, .bool false, .bool false, .bool false, .bool false, .bool false]) := ⟨by kernel_rfl⟩
instance : Zc Tryd.prog 82 [.bool false, .bool false, .bool false, .bool false, .bool false, .bool false, .bool false, .bool false, .bool false, .bool false, .bool false, .bool false, .bool false, .bool false, .bool false, .bool false, .bool false, .bool false, .bool false, .bool false, .bool false, .bool false, .bool false, .bool false, .bool false, .bool false, .bool false, .bool false, .bool false, .bool false, .bool false, .bool false, .bool false, .bool false, .bool false, .bool false, .bool false, .bool false, .bool false, .bool false, .bool false, .bool false, .bool false, .bool false, .bool false, .bool false, .bool false, .bool false, .bool false, .bool false, .bool false, .bool false, .bool false, .bool false, .bool false, .bool false, .bool false, .bool false, .bool false, .bool false, .bool false, .bool false, .bool false, .bool false, .bool false, .bool false, .bool false, .bool false, .bool false, .bool false, .bool false, .bool false, .bool false, .bool false, .bool false, .bool false, .bool false, .bool false, .bool false, .bool false, .bool false, .bool false, .bool false, .bool false, .bool false, .bool false, .bool false, .bool false, .bool false, .bool false, .bool false, .bool false, .bool false, .bool false, .bool false, .bool false, .bool false, .bool false, .bool false, .bool false, .bool false, .bool false, .bool false, .bool false, .bool false, .bool false, .bool false, .bool false, .bool false, .bool false, .bool false, .bool false, .bool false, .bool false, .bool false, .bool false, .bool false, .bool false, .bool false, .bool false, .bool false, .bool false, .bool false, .bool false, .bool false, .bool false, .bool false, .bool false, .bool false, .bool false, .bool false, .bool false, .bool false, .bool false, .bool false, .bool false, .bool false, .bool false, .bool false, .bool false, .bool false, .bool false, .bool false, .bool false, .bool false, .bool false, .bool false, .bool false, .bool false, .bool false, .bool false, .bool false, .bool false, .bool false, .bool false, .bool false, .bool false, .bool false, .bool false, .bool false, .bool false, .bool false, .bool false, .bool false, .bool false, .bool false, .bool false, .bool false, .bool false, .bool false, .bool false, .bool false, .bool false, .bool false, .bool false, .bool false, .bool false, .bool false, .bool false, .bool false, .bool false, .bool false, .bool false, .bool false, .bool false, .bool false, .bool false, .bool false, .bool false, .bool false, .bool false, .bool false, .bool false, .bool false, .bool false, .bool false, .bool false, .bool false, .bool false, .bool false, .bool false, .bool false, .bool false, .bool false, .bool false, .bool false, .bool false, .bool false, .bool false, .bool false, .bool false, .bool false, .bool false, .bool false, .bool false, .bool false, .bool false, .bool false, .bool false, .bool false, .bool false, .bool false, .bool false, .bool false, .bool false, .bool false, .bool false, .bool false, .bool false, .bool false, .bool false, .bool false, .bool false, .bool false, .bool false, .bool false, .bool false, .bool false, .bool false, .bool false, .bool false, .bool false, .bool false, .bool false, .bool false, .bool false, .bool false, .bool false, .bool false, .bool false, .bool false, .bool false, .bool false, .bool false, .bool false, .bool false] := ⟨⟨.agg #[.bool false, .bool false, .bool false, .bool false, .bool false, .bool false, .bool false, .bool false, .bool false, .bool false, .bool false, .bool false, .bool false, .bool false, .bool false, .bool false, .bool false, .bool false, .bool false, .bool false, .bool false, .bool false, .bool false, .bool false, .bool false, .bool false, .bool false, .bool false, .bool false, .bool false, .bool false, .bool false, .bool false, .bool false, .bool false, .bool false, .bool false, .bool false, .bool false, .bool false, .bool false, .bool false, .bool false, .bool false, .bool false, .bool false, .bool false, .bool false, .bool false, .bool false, .bool false, .bool false, .bool false, .bool false, .bool false, .bool false, .bool false, .bool false, .bool false, .bool false, .bool false, .bool false, .bool false, .bool false, .bool false, .bool false, .bool false, .bool false, .bool false, .bool false, .bool false, .bool false, .bool false, .bool false, .bool false, .bool false, .bool false, .bool false, .bool false, .bool false, .bool false, .bool false, .bool false, .bool false, .bool false, .bool false, .bool false, .bool false, .bool false, .bool false, .bool false, .bool false, .bool false, .bool false, .bool false, .bool false, .bool false, .bool false, .bool false, .bool false, .bool false, .bool false, .bool false, .bool false, .bool false, .bool false, .bool false, .bool false, .bool false, .bool false, .bool false, .bool false, .bool false, .bool false, .bool false, .bool false, .bool false, .bool false, .bool false, .bool false, .bool false, .bool false, .bool false, .bool false, .bool false, .bool false, .bool false, .bool false, .bool false, .bool false, .bool false, .bool false, .bool false, .bool false, .bool false, .bool false, .bool false, .bool false, .bool false, .bool false, .bool false, .bool false, .bool false, .bool false, .bool false, .bool false, .bool false, .bool false, .bool false, .bool false, .bool false, .bool false, .bool false, .bool false, .bool false, .bool false, .bool false, .bool false, .bool false, .bool false, .bool false, .bool false, .bool false, .bool false, .bool false, .bool false, .bool false, .bool false, .bool false, .bool false, .bool false, .bool false, .bool false, .bool false, .bool false, .bool false, .bool false, .bool false, .bool false, .bool false, .bool false, .bool false, .bool false, .bool false, .bool false, .bool false, .bool false, .bool false, .bool false, .bool false, .bool false, .bool false, .bool false, .bool false, .bool false, .bool false, .bool false, .bool false, .bool false, .bool false, .bool false, .bool false, .bool false, .bool false, .bool false, .bool false, .bool false, .bool false, .bool false, .bool false, .bool false, .bool false, .bool false, .bool false, .bool false, .bool false, .bool false, .bool false, .bool false, .bool false, .bool false, .bool false, .bool false, .bool false, .bool false, .bool false, .bool false, .bool false, .bool false, .bool false, .bool false, .bool false, .bool false, .bool false, .bool false, .bool false, .bool false, .bool false, .bool false, .bool false, .bool false, .bool false, .bool false, .bool false, .bool false, .bool false, .bool false, .bool false, .bool false, .bool false, .bool false, .bool false, .bool false, .bool false, .bool false, .bool false], by kernel_rfl, rfl⟩⟩
instance : Arr Tryd.prog 82 256 4 := ⟨Tryd.underlying82⟩
instance : Bd Tryd.prog 82 (fun i => some (i * 1, 1)) (Value.cells (.agg #[.bool false, .bool false, .bool false, .bool false, .bool false, .bool false, .bool false, .bool false, .bool false, .bool false, .bool false, .bool false, .bool false, .bool false, .bool false, .bool false, .bool false, .bool false, .bool false, .bool false, .bool false, .bool false, .bool false, .bool false, .bool false, .bool false, .bool false, .bool false, .bool false, .bool false, .bool false, .bool false, .bool false, .bool false, .bool false, .bool false, .bool false, .bool false, .bool false, .bool false, .bool false, .bool false, .bool false, .bool false, .bool false, .bool false, .bool false, .bool false, .bool false, .bool false, .bool false, .bool false, .bool false, .bool false, .bool false, .bool false, .bool false, .bool false, .bool false, .bool false, .bool false, .bool false, .bool false, .bool false, .bool false, .bool false, .bool false, .bool false, .bool false, .bool false, .bool false, .bool false, .bool false, .bool false, .bool false, .bool false, .bool false, .bool false, .bool false, .bool false, .bool false, .bool false, .bool false, .bool false, .bool false, .bool false, .bool false, .bool false, .bool false, .bool false, .bool false, .bool false, .bool false, .bool false, .bool false, .bool false, .bool false, .bool false, .bool false, .bool false, .bool false, .bool false, .bool false, .bool false, .bool false, .bool false, .bool false, .bool false, .bool false, .bool false, .bool false, .bool false, .bool false, .bool false, .bool false, .bool false, .bool false, .bool false, .bool false, .bool false, .bool false, .bool false, .bool false, .bool false, .bool false, .bool false, .bool false, .bool false, .bool false, .bool false, .bool false, .bool false, .bool false, .bool false, .bool false, .bool false, .bool false, .bool false, .bool false, .bool false, .bool false, .bool false, .bool false, .bool false, .bool false, .bool false, .bool false, .bool false, .bool false, .bool false, .bool false, .bool false, .bool false, .bool false, .bool false, .bool false, .bool false, .bool false, .bool false, .bool false, .bool false, .bool false, .bool false, .bool false, .bool false, .bool false, .bool false, .bool false, .bool false, .bool false, .bool false, .bool false, .bool false, .bool false, .bool false, .bool false, .bool false, .bool false, .bool false, .bool false, .bool false, .bool false, .bool false, .bool false, .bool false, .bool false, .bool false, .bool false, .bool false, .bool false, .bool false, .bool false, .bool false, .bool false, .bool false, .bool false, .bool false, .bool false, .bool false, .bool false, .bool false, .bool false, .bool false, .bool false, .bool false, .bool false, .bool false, .bool false, .bool false, .bool false, .bool false, .bool false, .bool false, .bool false, .bool false, .bool false, .bool false, .bool false, .bool false, .bool false, .bool false, .bool false, .bool false, .bool false, .bool false, .bool false, .bool false, .bool false, .bool false, .bool false, .bool false, .bool false, .bool false, .bool false, .bool false, .bool false, .bool false, .bool false, .bool false, .bool false, .bool false, .bool false, .bool false, .bool false, .bool false, .bool false, .bool false, .bool false, .bool false, .bool false, .bool false, .bool false, .bool false, .bool false, .bool false, .bool false])) := bd_array Tryd.underlying82 (by kernel_rfl) (by kernel_rfl)
instance : Ag Tryd.prog 83 256 := ⟨by kernel_rfl, ⟨_, Tryd.underlying83, rfl⟩⟩
instance : Sz Tryd.prog 83 256 := ⟨by kernel_rfl⟩
instance : By Tryd.prog 83 256 := ⟨by kernel_rfl⟩
instance : Zr Tryd.prog 83 (.agg #[.bool false, .bool false, .bool false, .bool false, .bool false, .bool false, .bool false, .bool false, .bool false, .bool false, .bool false, .bool false, .bool false, .bool false, .bool false, .bool false, .bool false, .bool false, .bool false, .bool false, .bool false, .bool false, .bool false, .bool false, .bool false, .bool false, .bool false, .bool false, .bool false, .bool false, .bool false, .bool false, .bool false, .bool false, .bool false, .bool false, .bool false, .bool false, .bool false, .bool false, .bool false, .bool false, .bool false, .bool false, .bool false, .bool false, .bool false, .bool false, .bool false, .bool false, .bool false, .bool false, .bool false, .bool false, .bool false, .bool false, .bool false, .bool false, .bool false, .bool false, .bool false, .bool false, .bool false, .bool false, .bool false, .bool false, .bool false, .bool false, .bool false, .bool false, .bool false, .bool false, .bool false, .bool false, .bool false, .bool false, .bool false, .bool false, .bool false, .bool false, .bool false, .bool false, .bool false, .bool false, .bool false, .bool false, .bool false, .bool false, .bool false, .bool false, .bool false, .bool false, .bool false, .bool false, .bool false, .bool false, .bool false, .bool false, .bool false, .bool false, .bool false, .bool false, .bool false, .bool false, .bool false, .bool false, .bool false, .bool false, .bool false, .bool false, .bool false, .bool false, .bool false, .bool false, .bool false, .bool false, .bool false, .bool false, .bool false, .bool false, .bool false, .bool false, .bool false, .bool false, .bool false, .bool false, .bool false, .bool false, .bool false, .bool false, .bool false, .bool false, .bool false, .bool false, .bool false, .bool false, .bool false, .bool false, .bool false, .bool false, .bool false, .bool false, .bool false, .bool false, .bool false, .bool false, .bool false, .bool false, .bool false, .bool false, .bool false, .bool false, .bool false, .bool false, .bool false, .bool false, .bool false, .bool false, .bool false, .bool false, .bool false, .bool false, .bool false, .bool false, .bool false, .bool false, .bool false, .bool false, .bool false, .bool false, .bool false, .bool false, .bool false, .bool false, .bool false, .bool false, .bool false, .bool false, .bool false, .bool false, .bool false, .bool false, .bool false, .bool false, .bool false, .bool false, .bool false, .bool false, .bool false, .bool false, .bool false, .bool false, .bool false, .bool false, .bool false, .bool false, .bool false, .bool false, .bool false, .bool false, .bool false, .bool false, .bool false, .bool false, .bool false, .bool false, .bool false, .bool false, .bool false, .bool false, .bool false, .bool false, .bool false, .bool false, .bool false, .bool false, .bool false, .bool false, .bool false, .bool false, .bool false, .bool false, .bool false, .bool false, .bool false, .bool false, .bool false, .bool false, .bool false, .bool false, .bool false, .bool false, .bool false, .bool false, .bool false, .bool false, .bool false, .bool false, .bool false, .bool false, .bool false, .bool false, .bool false, .bool false, .bool false, .bool false, .bool false, .bool false, .bool false, .bool false, .bool false, .bool false, .bool false, .bool false, .bool false, .bool false]) := ⟨by kernel_rfl⟩
instance : Zc Tryd.prog 83 [.bool false, .bool false, .bool false, .bool false, .bool false, .bool false, .bool false, .bool false, .bool false, .bool false, .bool false, .bool false, .bool false, .bool false, .bool false, .bool false, .bool false, .bool false, .bool false, .bool false, .bool false, .bool false, .bool false, .bool false, .bool false, .bool false, .bool false, .bool false, .bool false, .bool false, .bool false, .bool false, .bool false, .bool false, .bool false, .bool false, .bool false, .bool false, .bool false, .bool false, .bool false, .bool false, .bool false, .bool false, .bool false, .bool false, .bool false, .bool false, .bool false, .bool false, .bool false, .bool false, .bool false, .bool false, .bool false, .bool false, .bool false, .bool false, .bool false, .bool false, .bool false, .bool false, .bool false, .bool false, .bool false, .bool false, .bool false, .bool false, .bool false, .bool false, .bool false, .bool false, .bool false, .bool false, .bool false, .bool false, .bool false, .bool false, .bool false, .bool false, .bool false, .bool false, .bool false, .bool false, .bool false, .bool false, .bool false, .bool false, .bool false, .bool false, .bool false, .bool false, .bool false, .bool false, .bool false, .bool false, .bool false, .bool false, .bool false, .bool false, .bool false, .bool false, .bool false, .bool false, .bool false, .bool false, .bool false, .bool false, .bool false, .bool false, .bool false, .bool false, .bool false, .bool false, .bool false, .bool false, .bool false, .bool false, .bool false, .bool false, .bool false, .bool false, .bool false, .bool false, .bool false, .bool false, .bool false, .bool false, .bool false, .bool false, .bool false, .bool false, .bool false, .bool false, .bool false, .bool false, .bool false, .bool false, .bool false, .bool false, .bool false, .bool false, .bool false, .bool false, .bool false, .bool false, .bool false, .bool false, .bool false, .bool false, .bool false, .bool false, .bool false, .bool false, .bool false, .bool false, .bool false, .bool false, .bool false, .bool false, .bool false, .bool false, .bool false, .bool false, .bool false, .bool false, .bool false, .bool false, .bool false, .bool false, .bool false, .bool false, .bool false, .bool false, .bool false, .bool false, .bool false, .bool false, .bool false, .bool false, .bool false, .bool false, .bool false, .bool false, .bool false, .bool false, .bool false, .bool false, .bool false, .bool false, .bool false, .bool false, .bool false, .bool false, .bool false, .bool false, .bool false, .bool false, .bool false, .bool false, .bool false, .bool false, .bool false, .bool false, .bool false, .bool false, .bool false, .bool false, .bool false, .bool false, .bool false, .bool false, .bool false, .bool false, .bool false, .bool false, .bool false, .bool false, .bool false, .bool false, .bool false, .bool false, .bool false, .bool false, .bool false, .bool false, .bool false, .bool false, .bool false, .bool false, .bool false, .bool false, .bool false, .bool false, .bool false, .bool false, .bool false, .bool false, .bool false, .bool false, .bool false, .bool false, .bool false, .bool false, .bool false, .bool false, .bool false, .bool false, .bool false, .bool false, .bool false, .bool false, .bool false, .bool false, .bool false, .bool false] := ⟨⟨.agg #[.bool false, .bool false, .bool false, .bool false, .bool false, .bool false, .bool false, .bool false, .bool false, .bool false, .bool false, .bool false, .bool false, .bool false, .bool false, .bool false, .bool false, .bool false, .bool false, .bool false, .bool false, .bool false, .bool false, .bool false, .bool false, .bool false, .bool false, .bool false, .bool false, .bool false, .bool false, .bool false, .bool false, .bool false, .bool false, .bool false, .bool false, .bool false, .bool false, .bool false, .bool false, .bool false, .bool false, .bool false, .bool false, .bool false, .bool false, .bool false, .bool false, .bool false, .bool false, .bool false, .bool false, .bool false, .bool false, .bool false, .bool false, .bool false, .bool false, .bool false, .bool false, .bool false, .bool false, .bool false, .bool false, .bool false, .bool false, .bool false, .bool false, .bool false, .bool false, .bool false, .bool false, .bool false, .bool false, .bool false, .bool false, .bool false, .bool false, .bool false, .bool false, .bool false, .bool false, .bool false, .bool false, .bool false, .bool false, .bool false, .bool false, .bool false, .bool false, .bool false, .bool false, .bool false, .bool false, .bool false, .bool false, .bool false, .bool false, .bool false, .bool false, .bool false, .bool false, .bool false, .bool false, .bool false, .bool false, .bool false, .bool false, .bool false, .bool false, .bool false, .bool false, .bool false, .bool false, .bool false, .bool false, .bool false, .bool false, .bool false, .bool false, .bool false, .bool false, .bool false, .bool false, .bool false, .bool false, .bool false, .bool false, .bool false, .bool false, .bool false, .bool false, .bool false, .bool false, .bool false, .bool false, .bool false, .bool false, .bool false, .bool false, .bool false, .bool false, .bool false, .bool false, .bool false, .bool false, .bool false, .bool false, .bool false, .bool false, .bool false, .bool false, .bool false, .bool false, .bool false, .bool false, .bool false, .bool false, .bool false, .bool false, .bool false, .bool false, .bool false, .bool false, .bool false, .bool false, .bool false, .bool false, .bool false, .bool false, .bool false, .bool false, .bool false, .bool false, .bool false, .bool false, .bool false, .bool false, .bool false, .bool false, .bool false, .bool false, .bool false, .bool false, .bool false, .bool false, .bool false, .bool false, .bool false, .bool false, .bool false, .bool false, .bool false, .bool false, .bool false, .bool false, .bool false, .bool false, .bool false, .bool false, .bool false, .bool false, .bool false, .bool false, .bool false, .bool false, .bool false, .bool false, .bool false, .bool false, .bool false, .bool false, .bool false, .bool false, .bool false, .bool false, .bool false, .bool false, .bool false, .bool false, .bool false, .bool false, .bool false, .bool false, .bool false, .bool false, .bool false, .bool false, .bool false, .bool false, .bool false, .bool false, .bool false, .bool false, .bool false, .bool false, .bool false, .bool false, .bool false, .bool false, .bool false, .bool false, .bool false, .bool false, .bool false, .bool false, .bool false, .bool false, .bool false, .bool false, .bool false, .bool false, .bool false, .bool false, .bool false], by kernel_rfl, rfl⟩⟩
instance : Arr Tryd.prog 83 256 4 := ⟨Tryd.underlying83⟩
instance : Bd Tryd.prog 83 (fun i => some (i * 1, 1)) (Value.cells (.agg #[.bool false, .bool false, .bool false, .bool false, .bool false, .bool false, .bool false, .bool false, .bool false, .bool false, .bool false, .bool false, .bool false, .bool false, .bool false, .bool false, .bool false, .bool false, .bool false, .bool false, .bool false, .bool false, .bool false, .bool false, .bool false, .bool false, .bool false, .bool false, .bool false, .bool false, .bool false, .bool false, .bool false, .bool false, .bool false, .bool false, .bool false, .bool false, .bool false, .bool false, .bool false, .bool false, .bool false, .bool false, .bool false, .bool false, .bool false, .bool false, .bool false, .bool false, .bool false, .bool false, .bool false, .bool false, .bool false, .bool false, .bool false, .bool false, .bool false, .bool false, .bool false, .bool false, .bool false, .bool false, .bool false, .bool false, .bool false, .bool false, .bool false, .bool false, .bool false, .bool false, .bool false, .bool false, .bool false, .bool false, .bool false, .bool false, .bool false, .bool false, .bool false, .bool false, .bool false, .bool false, .bool false, .bool false, .bool false, .bool false, .bool false, .bool false, .bool false, .bool false, .bool false, .bool false, .bool false, .bool false, .bool false, .bool false, .bool false, .bool false, .bool false, .bool false, .bool false, .bool false, .bool false, .bool false, .bool false, .bool false, .bool false, .bool false, .bool false, .bool false, .bool false, .bool false, .bool false, .bool false, .bool false, .bool false, .bool false, .bool false, .bool false, .bool false, .bool false, .bool false, .bool false, .bool false, .bool false, .bool false, .bool false, .bool false, .bool false, .bool false, .bool false, .bool false, .bool false, .bool false, .bool false, .bool false, .bool false, .bool false, .bool false, .bool false, .bool false, .bool false, .bool false, .bool false, .bool false, .bool false, .bool false, .bool false, .bool false, .bool false, .bool false, .bool false, .bool false, .bool false, .bool false, .bool false, .bool false, .bool false, .bool false, .bool false, .bool false, .bool false, .bool false, .bool false, .bool false, .bool false, .bool false, .bool false, .bool false, .bool false, .bool false, .bool false, .bool false, .bool false, .bool false, .bool false, .bool false, .bool false, .bool false, .bool false, .bool false, .bool false, .bool false, .bool false, .bool false, .bool false, .bool false, .bool false, .bool false, .bool false, .bool false, .bool false, .bool false, .bool false, .bool false, .bool false, .bool false, .bool false, .bool false, .bool false, .bool false, .bool false, .bool false, .bool false, .bool false, .bool false, .bool false, .bool false, .bool false, .bool false, .bool false, .bool false, .bool false, .bool false, .bool false, .bool false, .bool false, .bool false, .bool false, .bool false, .bool false, .bool false, .bool false, .bool false, .bool false, .bool false, .bool false, .bool false, .bool false, .bool false, .bool false, .bool false, .bool false, .bool false, .bool false, .bool false, .bool false, .bool false, .bool false, .bool false, .bool false, .bool false, .bool false, .bool false, .bool false, .bool false, .bool false, .bool false, .bool false, .bool false, .bool false, .bool false, .bool false, .bool false])) := bd_array Tryd.underlying83 (by kernel_rfl) (by kernel_rfl)
instance : Sc Tryd.prog 85 := ⟨by kernel_rfl, ⟨_, Tryd.underlying85, rfl⟩⟩
instance : Sz Tryd.prog 85 1 := ⟨by kernel_rfl⟩
instance : By Tryd.prog 85 8 := ⟨by kernel_rfl⟩
instance : Zr Tryd.prog 85 (.nilFunc) := ⟨by kernel_rfl⟩
instance : Zc Tryd.prog 85 [.nilFunc] := ⟨⟨.nilFunc, by kernel_rfl, rfl⟩⟩
instance : Sc Tryd.prog 86 := ⟨by kernel_rfl, ⟨_, Tryd.underlying86, rfl⟩⟩
instance : Sz Tryd.prog 86 1 := ⟨by kernel_rfl⟩
instance : By Tryd.prog 86 8 := ⟨by kernel_rfl⟩
instance : Zr Tryd.prog 86 (.nilFunc) := ⟨by kernel_rfl⟩
instance : Zc Tryd.prog 86 [.nilFunc] := ⟨⟨.nilFunc, by kernel_rfl, rfl⟩⟩
instance : Sc Tryd.prog 87 := ⟨by kernel_rfl, ⟨_, Tryd.underlying87, rfl⟩⟩
instance : Sz Tryd.prog 87 1 := ⟨by kernel_rfl⟩
instance : By Tryd.prog 87 8 := ⟨by kernel_rfl⟩
instance : Zr Tryd.prog 87 (.pointer none) := ⟨by kernel_rfl⟩
instance : Zc Tryd.prog 87 [.pointer none] := ⟨⟨.pointer none, by kernel_rfl, rfl⟩⟩
instance : Sc Tryd.prog 88 := ⟨by kernel_rfl, ⟨_, Tryd.underlying88, rfl⟩⟩
instance : Sz Tryd.prog 88 1 := ⟨by kernel_rfl⟩
instance : By Tryd.prog 88 24 := ⟨by kernel_rfl⟩
instance : Zr Tryd.prog 88 (.slice none 0 0) := ⟨by kernel_rfl⟩
instance : Zc Tryd.prog 88 [.slice none 0 0] := ⟨⟨.slice none 0 0, by kernel_rfl, rfl⟩⟩
instance : Sli Tryd.prog 88 60 := ⟨Tryd.underlying88⟩
instance : Sc Tryd.prog 89 := ⟨by kernel_rfl, ⟨_, Tryd.underlying89, rfl⟩⟩
instance : Sz Tryd.prog 89 1 := ⟨by kernel_rfl⟩
instance : By Tryd.prog 89 8 := ⟨by kernel_rfl⟩
instance : Zr Tryd.prog 89 (.nilFunc) := ⟨by kernel_rfl⟩
instance : Zc Tryd.prog 89 [.nilFunc] := ⟨⟨.nilFunc, by kernel_rfl, rfl⟩⟩
instance : Sc Tryd.prog 90 := ⟨by kernel_rfl, ⟨_, Tryd.underlying90, rfl⟩⟩
instance : Sz Tryd.prog 90 1 := ⟨by kernel_rfl⟩
instance : By Tryd.prog 90 8 := ⟨by kernel_rfl⟩
instance : Zr Tryd.prog 90 (.int .u64 0) := ⟨by kernel_rfl⟩
instance : Zc Tryd.prog 90 [.int .u64 0] := ⟨⟨.int .u64 0, by kernel_rfl, rfl⟩⟩
instance : Ity Tryd.prog 90 .u64 := ⟨Tryd.underlying90⟩
instance : Sc Tryd.prog 91 := ⟨by kernel_rfl, ⟨_, Tryd.underlying91, rfl⟩⟩
instance : Sz Tryd.prog 91 1 := ⟨by kernel_rfl⟩
instance : By Tryd.prog 91 8 := ⟨by kernel_rfl⟩
instance : Zr Tryd.prog 91 (.nilFunc) := ⟨by kernel_rfl⟩
instance : Zc Tryd.prog 91 [.nilFunc] := ⟨⟨.nilFunc, by kernel_rfl, rfl⟩⟩
instance : Sc Tryd.prog 92 := ⟨by kernel_rfl, ⟨_, Tryd.underlying92, rfl⟩⟩
instance : Sz Tryd.prog 92 1 := ⟨by kernel_rfl⟩
instance : By Tryd.prog 92 8 := ⟨by kernel_rfl⟩
instance : Zr Tryd.prog 92 (.nilFunc) := ⟨by kernel_rfl⟩
instance : Zc Tryd.prog 92 [.nilFunc] := ⟨⟨.nilFunc, by kernel_rfl, rfl⟩⟩
instance : Sc Tryd.prog 93 := ⟨by kernel_rfl, ⟨_, Tryd.underlying93, rfl⟩⟩
instance : Sz Tryd.prog 93 1 := ⟨by kernel_rfl⟩
instance : By Tryd.prog 93 8 := ⟨by kernel_rfl⟩
instance : Zr Tryd.prog 93 (.pointer none) := ⟨by kernel_rfl⟩
instance : Zc Tryd.prog 93 [.pointer none] := ⟨⟨.pointer none, by kernel_rfl, rfl⟩⟩
instance : Sc Tryd.prog 94 := ⟨by kernel_rfl, ⟨_, Tryd.underlying94, rfl⟩⟩
instance : Sz Tryd.prog 94 1 := ⟨by kernel_rfl⟩
instance : By Tryd.prog 94 8 := ⟨by kernel_rfl⟩
instance : Zr Tryd.prog 94 (.pointer none) := ⟨by kernel_rfl⟩
instance : Zc Tryd.prog 94 [.pointer none] := ⟨⟨.pointer none, by kernel_rfl, rfl⟩⟩
instance : Sc Tryd.prog 95 := ⟨by kernel_rfl, ⟨_, Tryd.underlying95, rfl⟩⟩
instance : Sz Tryd.prog 95 1 := ⟨by kernel_rfl⟩
instance : By Tryd.prog 95 8 := ⟨by kernel_rfl⟩
instance : Zr Tryd.prog 95 (.pointer none) := ⟨by kernel_rfl⟩
instance : Zc Tryd.prog 95 [.pointer none] := ⟨⟨.pointer none, by kernel_rfl, rfl⟩⟩
instance : Sc Tryd.prog 96 := ⟨by kernel_rfl, ⟨_, Tryd.underlying96, rfl⟩⟩
instance : Sz Tryd.prog 96 1 := ⟨by kernel_rfl⟩
instance : By Tryd.prog 96 16 := ⟨by kernel_rfl⟩
instance : Zr Tryd.prog 96 (.nilIface) := ⟨by kernel_rfl⟩
instance : Zc Tryd.prog 96 [.nilIface] := ⟨⟨.nilIface, by kernel_rfl, rfl⟩⟩
instance : Sc Tryd.prog 97 := ⟨by kernel_rfl, ⟨_, Tryd.underlying97, rfl⟩⟩
instance : Sz Tryd.prog 97 1 := ⟨by kernel_rfl⟩
instance : By Tryd.prog 97 16 := ⟨by kernel_rfl⟩
instance : Zr Tryd.prog 97 (.nilIface) := ⟨by kernel_rfl⟩
instance : Zc Tryd.prog 97 [.nilIface] := ⟨⟨.nilIface, by kernel_rfl, rfl⟩⟩
instance : Sc Tryd.prog 98 := ⟨by kernel_rfl, ⟨_, Tryd.underlying98, rfl⟩⟩
instance : Sz Tryd.prog 98 1 := ⟨by kernel_rfl⟩
instance : By Tryd.prog 98 8 := ⟨by kernel_rfl⟩
instance : Zr Tryd.prog 98 (.nilFunc) := ⟨by kernel_rfl⟩
instance : Zc Tryd.prog 98 [.nilFunc] := ⟨⟨.nilFunc, by kernel_rfl, rfl⟩⟩
instance : Sc Tryd.prog 99 := ⟨by kernel_rfl, ⟨_, Tryd.underlying99, rfl⟩⟩
instance : Sz Tryd.prog 99 1 := ⟨by kernel_rfl⟩
instance : By Tryd.prog 99 8 := ⟨by kernel_rfl⟩
instance : Zr Tryd.prog 99 (.nilFunc) := ⟨by kernel_rfl⟩
instance : Zc Tryd.prog 99 [.nilFunc] := ⟨⟨.nilFunc, by kernel_rfl, rfl⟩⟩
instance : Sc Tryd.prog 100 := ⟨by kernel_rfl, ⟨_, Tryd.underlying100, rfl⟩⟩
instance : Sz Tryd.prog 100 1 := ⟨by kernel_rfl⟩
instance : By Tryd.prog 100 8 := ⟨by kernel_rfl⟩
instance : Zr Tryd.prog 100 (.nilFunc) := ⟨by kernel_rfl⟩
instance : Zc Tryd.prog 100 [.nilFunc] := ⟨⟨.nilFunc, by kernel_rfl, rfl⟩⟩
instance : Sc Tryd.prog 102 := ⟨by kernel_rfl, ⟨_, Tryd.underlying102, rfl⟩⟩
instance : Sz Tryd.prog 102 1 := ⟨by kernel_rfl⟩
instance : By Tryd.prog 102 8 := ⟨by kernel_rfl⟩
instance : Zr Tryd.prog 102 (.nilFunc) := ⟨by kernel_rfl⟩
instance : Zc Tryd.prog 102 [.nilFunc] := ⟨⟨.nilFunc, by kernel_rfl, rfl⟩⟩
instance : Sc Tryd.prog 103 := ⟨by kernel_rfl, ⟨_, Tryd.underlying103, rfl⟩⟩
instance : Sz Tryd.prog 103 1 := ⟨by kernel_rfl⟩
instance : By Tryd.prog 103 8 := ⟨by kernel_rfl⟩
instance : Zr Tryd.prog 103 (.nilFunc) := ⟨by kernel_rfl⟩
instance : Zc Tryd.prog 103 [.nilFunc] := ⟨⟨.nilFunc, by kernel_rfl, rfl⟩⟩
instance : Sc Tryd.prog 105 := ⟨by kernel_rfl, ⟨_, Tryd.underlying105, rfl⟩⟩
instance : Sz Tryd.prog 105 1 := ⟨by kernel_rfl⟩
instance : By Tryd.prog 105 8 := ⟨by kernel_rfl⟩
instance : Zr Tryd.prog 105 (.nilFunc) := ⟨by kernel_rfl⟩
instance : Zc Tryd.prog 105 [.nilFunc] := ⟨⟨.nilFunc, by kernel_rfl, rfl⟩⟩
instance : Sc Tryd.prog 106 := ⟨by kernel_rfl, ⟨_, Tryd.underlying106, rfl⟩⟩
instance : Sz Tryd.prog 106 1 := ⟨by kernel_rfl⟩
instance : By Tryd.prog 106 8 := ⟨by kernel_rfl⟩
instance : Zr Tryd.prog 106 (.nilFunc) := ⟨by kernel_rfl⟩
instance : Zc Tryd.prog 106 [.nilFunc] := ⟨⟨.nilFunc, by kernel_rfl, rfl⟩⟩
instance : Sc Tryd.prog 108 := ⟨by kernel_rfl, ⟨_, Tryd.underlying108, rfl⟩⟩
instance : Sz Tryd.prog 108 1 := ⟨by kernel_rfl⟩
instance : By Tryd.prog 108 8 := ⟨by kernel_rfl⟩
instance : Zr Tryd.prog 108 (.nilFunc) := ⟨by kernel_rfl⟩
instance : Zc Tryd.prog 108 [.nilFunc] := ⟨⟨.nilFunc, by kernel_rfl, rfl⟩⟩
instance : Sc Tryd.prog 109 := ⟨by kernel_rfl, ⟨_, Tryd.underlying109, rfl⟩⟩
instance : Sz Tryd.prog 109 1 := ⟨by kernel_rfl⟩
instance : By Tryd.prog 109 8 := ⟨by kernel_rfl⟩
instance : Zr Tryd.prog 109 (.nilFunc) := ⟨by kernel_rfl⟩
instance : Zc Tryd.prog 109 [.nilFunc] := ⟨⟨.nilFunc, by kernel_rfl, rfl⟩⟩
instance : Sc Tryd.prog 110 := ⟨by kernel_rfl, ⟨_, Tryd.underlying110, rfl⟩⟩
instance : Sz Tryd.prog 110 1 := ⟨by kernel_rfl⟩
instance : By Tryd.prog 110 8 := ⟨by kernel_rfl⟩
instance : Zr Tryd.prog 110 (.nilFunc) := ⟨by kernel_rfl⟩
instance : Zc Tryd.prog 110 [.nilFunc] := ⟨⟨.nilFunc, by kernel_rfl, rfl⟩⟩
instance : Ag Tryd.prog 111 1 := ⟨by kernel_rfl, ⟨_, Tryd.underlying111, rfl⟩⟩
instance : Sz Tryd.prog 111 1 := ⟨by kernel_rfl⟩
instance : By Tryd.prog 111 8 := ⟨by kernel_rfl⟩
instance : Zr Tryd.prog 111 (.agg #[.pointer none]) := ⟨by kernel_rfl⟩
instance : Zc Tryd.prog 111 [.pointer none] := ⟨⟨.agg #[.pointer none], by kernel_rfl, rfl⟩⟩
instance : Fi Tryd.prog 111 0 0 17 := ⟨⟨_, _, Tryd.underlying111, rfl, rfl, rfl⟩, ⟨1, by kernel_rfl, by decide⟩⟩
instance : Bd Tryd.prog 111 (fun i : Nat => ([(0, 1)] : List (Nat × Nat))[i]?) (Value.cells (.agg #[.pointer none])) := bd_struct Tryd.underlying111 (by kernel_rfl) (by kernel_rfl)
instance : Ag Tryd.prog 112 1 := ⟨by kernel_rfl, ⟨_, Tryd.underlying112, rfl⟩⟩
instance : Sz Tryd.prog 112 1 := ⟨by kernel_rfl⟩
instance : By Tryd.prog 112 8 := ⟨by kernel_rfl⟩
instance : Zr Tryd.prog 112 (.agg #[.pointer none]) := ⟨by kernel_rfl⟩
instance : Zc Tryd.prog 112 [.pointer none] := ⟨⟨.agg #[.pointer none], by kernel_rfl, rfl⟩⟩
instance : Fi Tryd.prog 112 0 0 17 := ⟨⟨_, _, Tryd.underlying112, rfl, rfl, rfl⟩, ⟨1, by kernel_rfl, by decide⟩⟩
instance : Bd Tryd.prog 112 (fun i : Nat => ([(0, 1)] : List (Nat × Nat))[i]?) (Value.cells (.agg #[.pointer none])) := bd_struct Tryd.underlying112 (by kernel_rfl) (by kernel_rfl)
instance : Sc Tryd.prog 113 := ⟨by kernel_rfl, ⟨_, Tryd.underlying113, rfl⟩⟩
instance : Sz Tryd.prog 113 1 := ⟨by kernel_rfl⟩
instance : By Tryd.prog 113 8 := ⟨by kernel_rfl⟩
instance : Zr Tryd.prog 113 (.pointer none) := ⟨by kernel_rfl⟩
instance : Zc Tryd.prog 113 [.pointer none] := ⟨⟨.pointer none, by kernel_rfl, rfl⟩⟩
instance : Sc Tryd.prog 114 := ⟨by kernel_rfl, ⟨_, Tryd.underlying114, rfl⟩⟩
instance : Sz Tryd.prog 114 1 := ⟨by kernel_rfl⟩
instance : By Tryd.prog 114 16 := ⟨by kernel_rfl⟩
instance : Zr Tryd.prog 114 (.nilIface) := ⟨by kernel_rfl⟩
instance : Zc Tryd.prog 114 [.nilIface] := ⟨⟨.nilIface, by kernel_rfl, rfl⟩⟩
instance : Sc Tryd.prog 116 := ⟨by kernel_rfl, ⟨_, Tryd.underlying116, rfl⟩⟩
instance : Sz Tryd.prog 116 1 := ⟨by kernel_rfl⟩
instance : By Tryd.prog 116 8 := ⟨by kernel_rfl⟩
instance : Zr Tryd.prog 116 (.nilFunc) := ⟨by kernel_rfl⟩
instance : Zc Tryd.prog 116 [.nilFunc] := ⟨⟨.nilFunc, by kernel_rfl, rfl⟩⟩
instance : Sc Tryd.prog 117 := ⟨by kernel_rfl, ⟨_, Tryd.underlying117, rfl⟩⟩
instance : Sz Tryd.prog 117 1 := ⟨by kernel_rfl⟩
instance : By Tryd.prog 117 16 := ⟨by kernel_rfl⟩
instance : Zr Tryd.prog 117 (.nilIface) := ⟨by kernel_rfl⟩
instance : Zc Tryd.prog 117 [.nilIface] := ⟨⟨.nilIface, by kernel_rfl, rfl⟩⟩
instance : Sc Tryd.prog 118 := ⟨by kernel_rfl, ⟨_, Tryd.underlying118, rfl⟩⟩
instance : Sz Tryd.prog 118 1 := ⟨by kernel_rfl⟩
instance : By Tryd.prog 118 8 := ⟨by kernel_rfl⟩
instance : Zr Tryd.prog 118 (.nilFunc) := ⟨by kernel_rfl⟩
instance : Zc Tryd.prog 118 [.nilFunc] := ⟨⟨.nilFunc, by kernel_rfl, rfl⟩⟩
instance : Sc Tryd.prog 119 := ⟨by kernel_rfl, ⟨_, Tryd.underlying119, rfl⟩⟩
instance : Sz Tryd.prog 119 1 := ⟨by kernel_rfl⟩
instance : By Tryd.prog 119 16 := ⟨by kernel_rfl⟩
instance : Zr Tryd.prog 119 (.nilIface) := ⟨by kernel_rfl⟩
instance : Zc Tryd.prog 119 [.nilIface] := ⟨⟨.nilIface, by kernel_rfl, rfl⟩⟩
instance : Sc Tryd.prog 120 := ⟨by kernel_rfl, ⟨_, Tryd.underlying120, rfl⟩⟩
instance : Sz Tryd.prog 120 1 := ⟨by kernel_rfl⟩
instance : By Tryd.prog 120 24 := ⟨by kernel_rfl⟩
instance : Zr Tryd.prog 120 (.slice none 0 0) := ⟨by kernel_rfl⟩
instance : Zc Tryd.prog 120 [.slice none 0 0] := ⟨⟨.slice none 0 0, by kernel_rfl, rfl⟩⟩
instance : Sli Tryd.prog 120 69 := ⟨Tryd.underlying120⟩
instance : Sc Tryd.prog 121 := ⟨by kernel_rfl, ⟨_, Tryd.underlying121, rfl⟩⟩
instance : Sz Tryd.prog 121 1 := ⟨by kernel_rfl⟩
instance : By Tryd.prog 121 8 := ⟨by kernel_rfl⟩
instance : Zr Tryd.prog 121 (.nilFunc) := ⟨by kernel_rfl⟩
instance : Zc Tryd.prog 121 [.nilFunc] := ⟨⟨.nilFunc, by kernel_rfl, rfl⟩⟩
instance : Sc Tryd.prog 123 := ⟨by kernel_rfl, ⟨_, Tryd.underlying123, rfl⟩⟩
instance : Sz Tryd.prog 123 1 := ⟨by kernel_rfl⟩
instance : By Tryd.prog 123 8 := ⟨by kernel_rfl⟩
instance : Zr Tryd.prog 123 (.nilFunc) := ⟨by kernel_rfl⟩
instance : Zc Tryd.prog 123 [.nilFunc] := ⟨⟨.nilFunc, by kernel_rfl, rfl⟩⟩
instance : Sc Tryd.prog 124 := ⟨by kernel_rfl, ⟨_, Tryd.underlying124, rfl⟩⟩
instance : Sz Tryd.prog 124 1 := ⟨by kernel_rfl⟩
instance : By Tryd.prog 124 8 := ⟨by kernel_rfl⟩
instance : Zr Tryd.prog 124 (.nilFunc) := ⟨by kernel_rfl⟩
instance : Zc Tryd.prog 124 [.nilFunc] := ⟨⟨.nilFunc, by kernel_rfl, rfl⟩⟩
instance : Sc Tryd.prog 125 := ⟨by kernel_rfl, ⟨_, Tryd.underlying125, rfl⟩⟩
instance : Sz Tryd.prog 125 1 := ⟨by kernel_rfl⟩
instance : By Tryd.prog 125 8 := ⟨by kernel_rfl⟩
instance : Zr Tryd.prog 125 (.nilFunc) := ⟨by kernel_rfl⟩
instance : Zc Tryd.prog 125 [.nilFunc] := ⟨⟨.nilFunc, by kernel_rfl, rfl⟩⟩
instance : Sc Tryd.prog 126 := ⟨by kernel_rfl, ⟨_, Tryd.underlying126, rfl⟩⟩
instance : Sz Tryd.prog 126 1 := ⟨by kernel_rfl⟩
instance : By Tryd.prog 126 8 := ⟨by kernel_rfl⟩
instance : Zr Tryd.prog 126 (.nilFunc) := ⟨by kernel_rfl⟩
instance : Zc Tryd.prog 126 [.nilFunc] := ⟨⟨.nilFunc, by kernel_rfl, rfl⟩⟩
instance : Sc Tryd.prog 127 := ⟨by kernel_rfl, ⟨_, Tryd.underlying127, rfl⟩⟩
instance : Sz Tryd.prog 127 1 := ⟨by kernel_rfl⟩
instance : By Tryd.prog 127 8 := ⟨by kernel_rfl⟩
instance : Zr Tryd.prog 127 (.nilFunc) := ⟨by kernel_rfl⟩
instance : Zc Tryd.prog 127 [.nilFunc] := ⟨⟨.nilFunc, by kernel_rfl, rfl⟩⟩
instance : Sc Tryd.prog 128 := ⟨by kernel_rfl, ⟨_, Tryd.underlying128, rfl⟩⟩
instance : Sz Tryd.prog 128 1 := ⟨by kernel_rfl⟩
instance : By Tryd.prog 128 8 := ⟨by kernel_rfl⟩
instance : Zr Tryd.prog 128 (.nilFunc) := ⟨by kernel_rfl⟩
instance : Zc Tryd.prog 128 [.nilFunc] := ⟨⟨.nilFunc, by kernel_rfl, rfl⟩⟩
instance : Sc Tryd.prog 129 := ⟨by kernel_rfl, ⟨_, Tryd.underlying129, rfl⟩⟩
instance : Sz Tryd.prog 129 1 := ⟨by kernel_rfl⟩
instance : By Tryd.prog 129 8 := ⟨by kernel_rfl⟩
instance : Zr Tryd.prog 129 (.int .u64 0) := ⟨by kernel_rfl⟩
instance : Zc Tryd.prog 129 [.int .u64 0] := ⟨⟨.int .u64 0, by kernel_rfl, rfl⟩⟩
instance : Ity Tryd.prog 129 .u64 := ⟨Tryd.underlying129⟩
instance : Ag Tryd.prog 130 256 := ⟨by kernel_rfl, ⟨_, Tryd.underlying130, rfl⟩⟩
instance : Sz Tryd.prog 130 256 := ⟨by kernel_rfl⟩
instance : By Tryd.prog 130 256 := ⟨by kernel_rfl⟩
instance : Zr Tryd.prog 130 (.agg #[.int .u8 0, .int .u8 0, .int .u8 0, .int .u8 0, .int .u8 0, .int .u8 0, .int .u8 0, .int .u8 0, .int .u8 0, .int .u8 0, .int .u8 0, .int .u8 0, .int .u8 0, .int .u8 0, .int .u8 0, .int .u8 0, .int .u8 0, .int .u8 0, .int .u8 0, .int .u8 0, .int .u8 0, .int .u8 0, .int .u8 0, .int .u8 0, .int .u8 0, .int .u8 0, .int .u8 0, .int .u8 0, .int .u8 0, .int .u8 0, .int .u8 0, .int .u8 0, .int .u8 0, .int .u8 0, .int .u8 0, .int .u8 0, .int .u8 0, .int .u8 0, .int .u8 0, .int .u8 0, .int .u8 0, .int .u8 0, .int .u8 0, .int .u8 0, .int .u8 0, .int .u8 0, .int .u8 0, .int .u8 0, .int .u8 0, .int .u8 0, .int .u8 0, .int .u8 0, .int .u8 0, .int .u8 0, .int .u8 0, .int .u8 0, .int .u8 0, .int .u8 0, .int .u8 0, .int .u8 0, .int .u8 0, .int .u8 0, .int .u8 0, .int .u8 0, .int .u8 0, .int .u8 0, .int .u8 0, .int .u8 0, .int .u8 0, .int .u8 0, .int .u8 0, .int .u8 0, .int .u8 0, .int .u8 0, .int .u8 0, .int .u8 0, .int .u8 0, .int .u8 0, .int .u8 0, .int .u8 0, .int .u8 0, .int .u8 0, .int .u8 0, .int .u8 0, .int .u8 0, .int .u8 0, .int .u8 0, .int .u8 0, .int .u8 0, .int .u8 0, .int .u8 0, .int .u8 0, .int .u8 0, .int .u8 0, .int .u8 0, .int .u8 0, .int .u8 0, .int .u8 0, .int .u8 0, .int .u8 0, .int .u8 0, .int .u8 0, .int .u8 0, .int .u8 0, .int .u8 0, .int .u8 0, .int .u8 0, .int .u8 0, .int .u8 0, .int .u8 0, .int .u8 0, .int .u8 0, .int .u8 0, .int .u8 0, .int .u8 0, .int .u8 0, .int .u8 0, .int .u8 0, .int .u8 0, .int .u8 0, .int .u8 0, .int .u8 0, .int .u8 0, .int .u8 0, .int .u8 0, .int .u8 0, .int .u8 0, .int .u8 0, .int .u8 0, .int .u8 0, .int .u8 0, .int .u8 0, .int .u8 0, .int .u8 0, .int .u8 0, .int .u8 0, .int .u8 0, .int .u8 0, .int .u8 0, .int .u8 0, .int .u8 0, .int .u8 0, .int .u8 0, .int .u8 0, .int .u8 0, .int .u8 0, .int .u8 0, .int .u8 0, .int .u8 0, .int .u8 0, .int .u8 0, .int .u8 0, .int .u8 0, .int .u8 0, .int .u8 0, .int .u8 0, .int .u8 0, .int .u8 0, .int .u8 0, .int .u8 0, .int .u8 0, .int .u8 0, .int .u8 0, .int .u8 0, .int .u8 0, .int .u8 0, .int .u8 0, .int .u8 0, .int .u8 0, .int .u8 0, .int .u8 0, .int .u8 0, .int .u8 0, .int .u8 0, .int .u8 0, .int .u8 0, .int .u8 0, .int .u8 0, .int .u8 0, .int .u8 0, .int .u8 0, .int .u8 0, .int .u8 0, .int .u8 0, .int .u8 0, .int .u8 0, .int .u8 0, .int .u8 0, .int .u8 0, .int .u8 0, .int .u8 0, .int .u8 0, .int .u8 0, .int .u8 0, .int .u8 0, .int .u8 0, .int .u8 0, .int .u8 0, .int .u8 0, .int .u8 0, .int .u8 0, .int .u8 0, .int .u8 0, .int .u8 0, .int .u8 0, .int .u8 0, .int .u8 0, .int .u8 0, .int .u8 0, .int .u8 0, .int .u8 0, .int .u8 0, .int .u8 0, .int .u8 0, .int .u8 0, .int .u8 0, .int .u8 0, .int .u8 0, .int .u8 0, .int .u8 0, .int .u8 0, .int .u8 0, .int .u8 0, .int .u8 0, .int .u8 0, .int .u8 0, .int .u8 0, .int .u8 0, .int .u8 0, .int .u8 0, .int .u8 0, .int .u8 0, .int .u8 0, .int .u8 0, .int .u8 0, .int .u8 0, .int .u8 0, .int .u8 0, .int .u8 0, .int .u8 0, .int .u8 0, .int .u8 0, .int .u8 0, .int .u8 0, .int .u8 0, .int .u8 0, .int .u8 0, .int .u8 0, .int .u8 0, .int .u8 0, .int .u8 0, .int .u8 0, .int .u8 0, .int .u8 0, .int .u8 0, .int .u8 0]) := ⟨by kernel_rfl⟩
instance : Zc Tryd.prog 130 [.int .u8 0, .int .u8 0, .int .u8 0, .int .u8 0, .int .u8 0, .int .u8 0, .int .u8 0, .int .u8 0, .int .u8 0, .int .u8 0, .int .u8 0, .int .u8 0, .int .u8 0, .int .u8 0, .int .u8 0, .int .u8 0, .int .u8 0, .int .u8 0, .int .u8 0, .int .u8 0, .int .u8 0, .int .u8 0, .int .u8 0, .int .u8 0, .int .u8 0, .int .u8 0, .int .u8 0, .int .u8 0, .int .u8 0, .int .u8 0, .int .u8 0, .int .u8 0, .int .u8 0, .int .u8 0, .int .u8 0, .int .u8 0, .int .u8 0, .int .u8 0, .int .u8 0, .int .u8 0, .int .u8 0, .int .u8 0, .int .u8 0, .int .u8 0, .int .u8 0, .int .u8 0, .int .u8 0, .int .u8 0, .int .u8 0, .int .u8 0, .int .u8 0, .int .u8 0, .int .u8 0, .int .u8 0, .int .u8 0, .int .u8 0, .int .u8 0, .int .u8 0, .int .u8 0, .int .u8 0, .int .u8 0, .int .u8 0, .int .u8 0, .int .u8 0, .int .u8 0, .int .u8 0, .int .u8 0, .int .u8 0, .int .u8 0, .int .u8 0, .int .u8 0, .int .u8 0, .int .u8 0, .int .u8 0, .int .u8 0, .int .u8 0, .int .u8 0, .int .u8 0, .int .u8 0, .int .u8 0, .int .u8 0, .int .u8 0, .int .u8 0, .int .u8 0, .int .u8 0, .int .u8 0, .int .u8 0, .int .u8 0, .int .u8 0, .int .u8 0, .int .u8 0, .int .u8 0, .int .u8 0, .int .u8 0, .int .u8 0, .int .u8 0, .int .u8 0, .int .u8 0, .int .u8 0, .int .u8 0, .int .u8 0, .int .u8 0, .int .u8 0, .int .u8 0, .int .u8 0, .int .u8 0, .int .u8 0, .int .u8 0, .int .u8 0, .int .u8 0, .int .u8 0, .int .u8 0, .int .u8 0, .int .u8 0, .int .u8 0, .int .u8 0, .int .u8 0, .int .u8 0, .int .u8 0, .int .u8 0, .int .u8 0, .int .u8 0, .int .u8 0, .int .u8 0, .int .u8 0, .int .u8 0, .int .u8 0, .int .u8 0, .int .u8 0, .int .u8 0, .int .u8 0, .int .u8 0, .int .u8 0, .int .u8 0, .int .u8 0, .int .u8 0, .int .u8 0, .int .u8 0, .int .u8 0, .int .u8 0, .int .u8 0, .int .u8 0, .int .u8 0, .int .u8 0, .int .u8 0, .int .u8 0, .int .u8 0, .int .u8 0, .int .u8 0, .int .u8 0, .int .u8 0, .int .u8 0, .int .u8 0, .int .u8 0, .int .u8 0, .int .u8 0, .int .u8 0, .int .u8 0, .int .u8 0, .int .u8 0, .int .u8 0, .int .u8 0, .int .u8 0, .int .u8 0, .int .u8 0, .int .u8 0, .int .u8 0, .int .u8 0, .int .u8 0, .int .u8 0, .int .u8 0, .int .u8 0, .int .u8 0, .int .u8 0, .int .u8 0, .int .u8 0, .int .u8 0, .int .u8 0, .int .u8 0, .int .u8 0, .int .u8 0, .int .u8 0, .int .u8 0, .int .u8 0, .int .u8 0, .int .u8 0, .int .u8 0, .int .u8 0, .int .u8 0, .int .u8 0, .int .u8 0, .int .u8 0, .int .u8 0, .int .u8 0, .int .u8 0, .int .u8 0, .int .u8 0, .int .u8 0, .int .u8 0, .int .u8 0, .int .u8 0, .int .u8 0, .int .u8 0, .int .u8 0, .int .u8 0, .int .u8 0, .int .u8 0, .int .u8 0, .int .u8 0, .int .u8 0, .int .u8 0, .int .u8 0, .int .u8 0, .int .u8 0, .int .u8 0, .int .u8 0, .int .u8 0, .int .u8 0, .int .u8 0, .int .u8 0, .int .u8 0, .int .u8 0, .int .u8 0, .int .u8 0, .int .u8 0, .int .u8 0, .int .u8 0, .int .u8 0, .int .u8 0, .int .u8 0, .int .u8 0, .int .u8 0, .int .u8 0, .int .u8 0, .int .u8 0, .int .u8 0, .int .u8 0, .int .u8 0, .int .u8 0, .int .u8 0, .int .u8 0, .int .u8 0, .int .u8 0, .int .u8 0, .int .u8 0, .int .u8 0, .int .u8 0, .int .u8 0, .int .u8 0, .int .u8 0, .int .u8 0, .int .u8 0, .int .u8 0, .int .u8 0, .int .u8 0, .int .u8 0] := ⟨⟨.agg #[.int .u8 0, .int .u8 0, .int .u8 0, .int .u8 0, .int .u8 0, .int .u8 0, .int .u8 0, .int .u8 0, .int .u8 0, .int .u8 0, .int .u8 0, .int .u8 0, .int .u8 0, .int .u8 0, .int .u8 0, .int .u8 0, .int .u8 0, .int .u8 0, .int .u8 0, .int .u8 0, .int .u8 0, .int .u8 0, .int .u8 0, .int .u8 0, .int .u8 0, .int .u8 0, .int .u8 0, .int .u8 0, .int .u8 0, .int .u8 0, .int .u8 0, .int .u8 0, .int .u8 0, .int .u8 0, .int .u8 0, .int .u8 0, .int .u8 0, .int .u8 0, .int .u8 0, .int .u8 0, .int .u8 0, .int .u8 0, .int .u8 0, .int .u8 0, .int .u8 0, .int .u8 0, .int .u8 0, .int .u8 0, .int .u8 0, .int .u8 0, .int .u8 0, .int .u8 0, .int .u8 0, .int .u8 0, .int .u8 0, .int .u8 0, .int .u8 0, .int .u8 0, .int .u8 0, .int .u8 0, .int .u8 0, .int .u8 0, .int .u8 0, .int .u8 0, .int .u8 0, .int .u8 0, .int .u8 0, .int .u8 0, .int .u8 0, .int .u8 0, .int .u8 0, .int .u8 0, .int .u8 0, .int .u8 0, .int .u8 0, .int .u8 0, .int .u8 0, .int .u8 0, .int .u8 0, .int .u8 0, .int .u8 0, .int .u8 0, .int .u8 0, .int .u8 0, .int .u8 0, .int .u8 0, .int .u8 0, .int .u8 0, .int .u8 0, .int .u8 0, .int .u8 0, .int .u8 0, .int .u8 0, .int .u8 0, .int .u8 0, .int .u8 0, .int .u8 0, .int .u8 0, .int .u8 0, .int .u8 0, .int .u8 0, .int .u8 0, .int .u8 0, .int .u8 0, .int .u8 0, .int .u8 0, .int .u8 0, .int .u8 0, .int .u8 0, .int .u8 0, .int .u8 0, .int .u8 0, .int .u8 0, .int .u8 0, .int .u8 0, .int .u8 0, .int .u8 0, .int .u8 0, .int .u8 0, .int .u8 0, .int .u8 0, .int .u8 0, .int .u8 0, .int .u8 0, .int .u8 0, .int .u8 0, .int .u8 0, .int .u8 0, .int .u8 0, .int .u8 0, .int .u8 0, .int .u8 0, .int .u8 0, .int .u8 0, .int .u8 0, .int .u8 0, .int .u8 0, .int .u8 0, .int .u8 0, .int .u8 0, .int .u8 0, .int .u8 0, .int .u8 0, .int .u8 0, .int .u8 0, .int .u8 0, .int .u8 0, .int .u8 0, .int .u8 0, .int .u8 0, .int .u8 0, .int .u8 0, .int .u8 0, .int .u8 0, .int .u8 0, .int .u8 0, .int .u8 0, .int .u8 0, .int .u8 0, .int .u8 0, .int .u8 0, .int .u8 0, .int .u8 0, .int .u8 0, .int .u8 0, .int .u8 0, .int .u8 0, .int .u8 0, .int .u8 0, .int .u8 0, .int .u8 0, .int .u8 0, .int .u8 0, .int .u8 0, .int .u8 0, .int .u8 0, .int .u8 0, .int .u8 0, .int .u8 0, .int .u8 0, .int .u8 0, .int .u8 0, .int .u8 0, .int .u8 0, .int .u8 0, .int .u8 0, .int .u8 0, .int .u8 0, .int .u8 0, .int .u8 0, .int .u8 0, .int .u8 0, .int .u8 0, .int .u8 0, .int .u8 0, .int .u8 0, .int .u8 0, .int .u8 0, .int .u8 0, .int .u8 0, .int .u8 0, .int .u8 0, .int .u8 0, .int .u8 0, .int .u8 0, .int .u8 0, .int .u8 0, .int .u8 0, .int .u8 0, .int .u8 0, .int .u8 0, .int .u8 0, .int .u8 0, .int .u8 0, .int .u8 0, .int .u8 0, .int .u8 0, .int .u8 0, .int .u8 0, .int .u8 0, .int .u8 0, .int .u8 0, .int .u8 0, .int .u8 0, .int .u8 0, .int .u8 0, .int .u8 0, .int .u8 0, .int .u8 0, .int .u8 0, .int .u8 0, .int .u8 0, .int .u8 0, .int .u8 0, .int .u8 0, .int .u8 0, .int .u8 0, .int .u8 0, .int .u8 0, .int .u8 0, .int .u8 0, .int .u8 0, .int .u8 0, .int .u8 0, .int .u8 0, .int .u8 0, .int .u8 0, .int .u8 0, .int .u8 0, .int .u8 0, .int .u8 0, .int .u8 0, .int .u8 0, .int .u8 0, .int .u8 0, .int .u8 0], by kernel_rfl, rfl⟩⟩
instance : Arr Tryd.prog 130 256 5 := ⟨Tryd.underlying130⟩
instance : Bd Tryd.prog 130 (fun i => some (i * 1, 1)) (Value.cells (.agg #[.int .u8 0, .int .u8 0, .int .u8 0, .int .u8 0, .int .u8 0, .int .u8 0, .int .u8 0, .int .u8 0, .int .u8 0, .int .u8 0, .int .u8 0, .int .u8 0, .int .u8 0, .int .u8 0, .int .u8 0, .int .u8 0, .int .u8 0, .int .u8 0, .int .u8 0, .int .u8 0, .int .u8 0, .int .u8 0, .int .u8 0, .int .u8 0, .int .u8 0, .int .u8 0, .int .u8 0, .int .u8 0, .int .u8 0, .int .u8 0, .int .u8 0, .int .u8 0, .int .u8 0, .int .u8 0, .int .u8 0, .int .u8 0, .int .u8 0, .int .u8 0, .int .u8 0, .int .u8 0, .int .u8 0, .int .u8 0, .int .u8 0, .int .u8 0, .int .u8 0, .int .u8 0, .int .u8 0, .int .u8 0, .int .u8 0, .int .u8 0, .int .u8 0, .int .u8 0, .int .u8 0, .int .u8 0, .int .u8 0, .int .u8 0, .int .u8 0, .int .u8 0, .int .u8 0, .int .u8 0, .int .u8 0, .int .u8 0, .int .u8 0, .int .u8 0, .int .u8 0, .int .u8 0, .int .u8 0, .int .u8 0, .int .u8 0, .int .u8 0, .int .u8 0, .int .u8 0, .int .u8 0, .int .u8 0, .int .u8 0, .int .u8 0, .int .u8 0, .int .u8 0, .int .u8 0, .int .u8 0, .int .u8 0, .int .u8 0, .int .u8 0, .int .u8 0, .int .u8 0, .int .u8 0, .int .u8 0, .int .u8 0, .int .u8 0, .int .u8 0, .int .u8 0, .int .u8 0, .int .u8 0, .int .u8 0, .int .u8 0, .int .u8 0, .int .u8 0, .int .u8 0, .int .u8 0, .int .u8 0, .int .u8 0, .int .u8 0, .int .u8 0, .int .u8 0, .int .u8 0, .int .u8 0, .int .u8 0, .int .u8 0, .int .u8 0, .int .u8 0, .int .u8 0, .int .u8 0, .int .u8 0, .int .u8 0, .int .u8 0, .int .u8 0, .int .u8 0, .int .u8 0, .int .u8 0, .int .u8 0, .int .u8 0, .int .u8 0, .int .u8 0, .int .u8 0, .int .u8 0, .int .u8 0, .int .u8 0, .int .u8 0, .int .u8 0, .int .u8 0, .int .u8 0, .int .u8 0, .int .u8 0, .int .u8 0, .int .u8 0, .int .u8 0, .int .u8 0, .int .u8 0, .int .u8 0, .int .u8 0, .int .u8 0, .int .u8 0, .int .u8 0, .int .u8 0, .int .u8 0, .int .u8 0, .int .u8 0, .int .u8 0, .int .u8 0, .int .u8 0, .int .u8 0, .int .u8 0, .int .u8 0, .int .u8 0, .int .u8 0, .int .u8 0, .int .u8 0, .int .u8 0, .int .u8 0, .int .u8 0, .int .u8 0, .int .u8 0, .int .u8 0, .int .u8 0, .int .u8 0, .int .u8 0, .int .u8 0, .int .u8 0, .int .u8 0, .int .u8 0, .int .u8 0, .int .u8 0, .int .u8 0, .int .u8 0, .int .u8 0, .int .u8 0, .int .u8 0, .int .u8 0, .int .u8 0, .int .u8 0, .int .u8 0, .int .u8 0, .int .u8 0, .int .u8 0, .int .u8 0, .int .u8 0, .int .u8 0, .int .u8 0, .int .u8 0, .int .u8 0, .int .u8 0, .int .u8 0, .int .u8 0, .int .u8 0, .int .u8 0, .int .u8 0, .int .u8 0, .int .u8 0, .int .u8 0, .int .u8 0, .int .u8 0, .int .u8 0, .int .u8 0, .int .u8 0, .int .u8 0, .int .u8 0, .int .u8 0, .int .u8 0, .int .u8 0, .int .u8 0, .int .u8 0, .int .u8 0, .int .u8 0, .int .u8 0, .int .u8 0, .int .u8 0, .int .u8 0, .int .u8 0, .int .u8 0, .int .u8 0, .int .u8 0, .int .u8 0, .int .u8 0, .int .u8 0, .int .u8 0, .int .u8 0, .int .u8 0, .int .u8 0, .int .u8 0, .int .u8 0, .int .u8 0, .int .u8 0, .int .u8 0, .int .u8 0, .int .u8 0, .int .u8 0, .int .u8 0, .int .u8 0, .int .u8 0, .int .u8 0, .int .u8 0, .int .u8 0, .int .u8 0, .int .u8 0, .int .u8 0, .int .u8 0, .int .u8 0, .int .u8 0, .int .u8 0, .int .u8 0, .int .u8 0, .int .u8 0, .int .u8 0, .int .u8 0, .int .u8 0, .int .u8 0])) := bd_array Tryd.underlying130 (by kernel_rfl) (by kernel_rfl)
instance : Ag Tryd.prog 131 2 := ⟨by kernel_rfl, ⟨_, Tryd.underlying131, rfl⟩⟩
instance : Sz Tryd.prog 131 2 := ⟨by kernel_rfl⟩
instance : By Tryd.prog 131 2 := ⟨by kernel_rfl⟩
instance : Zr Tryd.prog 131 (.agg #[.int .u8 0, .int .u8 0]) := ⟨by kernel_rfl⟩
instance : Zc Tryd.prog 131 [.int .u8 0, .int .u8 0] := ⟨⟨.agg #[.int .u8 0, .int .u8 0], by kernel_rfl, rfl⟩⟩
instance : Fi Tryd.prog 131 0 0 5 := ⟨⟨_, _, Tryd.underlying131, rfl, rfl, rfl⟩, ⟨1, by kernel_rfl, by decide⟩⟩
instance : Fi Tryd.prog 131 1 1 5 := ⟨⟨_, _, Tryd.underlying131, rfl, rfl, rfl⟩, ⟨1, by kernel_rfl, by decide⟩⟩
instance : Bd Tryd.prog 131 (fun i : Nat => ([(0, 1), (1, 1)] : List (Nat × Nat))[i]?) (Value.cells (.agg #[.int .u8 0, .int .u8 0])) := bd_struct Tryd.underlying131 (by kernel_rfl) (by kernel_rfl)
instance : Ag Tryd.prog 132 2 := ⟨by kernel_rfl, ⟨_, Tryd.underlying132, rfl⟩⟩
instance : Sz Tryd.prog 132 2 := ⟨by kernel_rfl⟩
instance : By Tryd.prog 132 2 := ⟨by kernel_rfl⟩
instance : Zr Tryd.prog 132 (.agg #[.int .u8 0, .int .u8 0]) := ⟨by kernel_rfl⟩
instance : Zc Tryd.prog 132 [.int .u8 0, .int .u8 0] := ⟨⟨.agg #[.int .u8 0, .int .u8 0], by kernel_rfl, rfl⟩⟩
instance : Fi Tryd.prog 132 0 0 5 := ⟨⟨_, _, Tryd.underlying132, rfl, rfl, rfl⟩, ⟨1, by kernel_rfl, by decide⟩⟩
instance : Fi Tryd.prog 132 1 1 5 := ⟨⟨_, _, Tryd.underlying132, rfl, rfl, rfl⟩, ⟨1, by kernel_rfl, by decide⟩⟩
instance : Bd Tryd.prog 132 (fun i : Nat => ([(0, 1), (1, 1)] : List (Nat × Nat))[i]?) (Value.cells (.agg #[.int .u8 0, .int .u8 0])) := bd_struct Tryd.underlying132 (by kernel_rfl) (by kernel_rfl)
instance : Ag Tryd.prog 133 32 := ⟨by kernel_rfl, ⟨_, Tryd.underlying133, rfl⟩⟩
instance : Sz Tryd.prog 133 32 := ⟨by kernel_rfl⟩
instance : By Tryd.prog 133 32 := ⟨by kernel_rfl⟩
instance : Zr Tryd.prog 133 (.agg #[.int .u8 0, .int .u8 0, .int .u8 0, .int .u8 0, .int .u8 0, .int .u8 0, .int .u8 0, .int .u8 0, .int .u8 0, .int .u8 0, .int .u8 0, .int .u8 0, .int .u8 0, .int .u8 0, .int .u8 0, .int .u8 0, .int .u8 0, .int .u8 0, .int .u8 0, .int .u8 0, .int .u8 0, .int .u8 0, .int .u8 0, .int .u8 0, .int .u8 0, .int .u8 0, .int .u8 0, .int .u8 0, .int .u8 0, .int .u8 0, .int .u8 0, .int .u8 0]) := ⟨by kernel_rfl⟩
instance : Zc Tryd.prog 133 [.int .u8 0, .int .u8 0, .int .u8 0, .int .u8 0, .int .u8 0, .int .u8 0, .int .u8 0, .int .u8 0, .int .u8 0, .int .u8 0, .int .u8 0, .int .u8 0, .int .u8 0, .int .u8 0, .int .u8 0, .int .u8 0, .int .u8 0, .int .u8 0, .int .u8 0, .int .u8 0, .int .u8 0, .int .u8 0, .int .u8 0, .int .u8 0, .int .u8 0, .int .u8 0, .int .u8 0, .int .u8 0, .int .u8 0, .int .u8 0, .int .u8 0, .int .u8 0] := ⟨⟨.agg #[.int .u8 0, .int .u8 0, .int .u8 0, .int .u8 0, .int .u8 0, .int .u8 0, .int .u8 0, .int .u8 0, .int .u8 0, .int .u8 0, .int .u8 0, .int .u8 0, .int .u8 0, .int .u8 0, .int .u8 0, .int .u8 0, .int .u8 0, .int .u8 0, .int .u8 0, .int .u8 0, .int .u8 0, .int .u8 0, .int .u8 0, .int .u8 0, .int .u8 0, .int .u8 0, .int .u8 0, .int .u8 0, .int .u8 0, .int .u8 0, .int .u8 0, .int .u8 0], by kernel_rfl, rfl⟩⟩
instance : Arr Tryd.prog 133 16 132 := ⟨Tryd.underlying133⟩
instance : Bd Tryd.prog 133 (fun i => some (i * 2, 2)) (Value.cells (.agg #[.int .u8 0, .int .u8 0, .int .u8 0, .int .u8 0, .int .u8 0, .int .u8 0, .int .u8 0, .int .u8 0, .int .u8 0, .int .u8 0, .int .u8 0, .int .u8 0, .int .u8 0, .int .u8 0, .int .u8 0, .int .u8 0, .int .u8 0, .int .u8 0, .int .u8 0, .int .u8 0, .int .u8 0, .int .u8 0, .int .u8 0, .int .u8 0, .int .u8 0, .int .u8 0, .int .u8 0, .int .u8 0, .int .u8 0, .int .u8 0, .int .u8 0, .int .u8 0])) := bd_array Tryd.underlying133 (by kernel_rfl) (by kernel_rfl)
instance : Sc Tryd.prog 134 := ⟨by kernel_rfl, ⟨_, Tryd.underlying134, rfl⟩⟩
instance : Sz Tryd.prog 134 1 := ⟨by kernel_rfl⟩
instance : By Tryd.prog 134 8 := ⟨by kernel_rfl⟩
instance : Zr Tryd.prog 134 (.nilFunc) := ⟨by kernel_rfl⟩
instance : Zc Tryd.prog 134 [.nilFunc] := ⟨⟨.nilFunc, by kernel_rfl, rfl⟩⟩
instance : Sc Tryd.prog 135 := ⟨by kernel_rfl, ⟨_, Tryd.underlying135, rfl⟩⟩
instance : Sz Tryd.prog 135 1 := ⟨by kernel_rfl⟩
instance : By Tryd.prog 135 8 := ⟨by kernel_rfl⟩
instance : Zr Tryd.prog 135 (.nilFunc) := ⟨by kernel_rfl⟩
instance : Zc Tryd.prog 135 [.nilFunc] := ⟨⟨.nilFunc, by kernel_rfl, rfl⟩⟩
instance : Sc Tryd.prog 136 := ⟨by kernel_rfl, ⟨_, Tryd.underlying136, rfl⟩⟩
instance : Sz Tryd.prog 136 1 := ⟨by kernel_rfl⟩
instance : By Tryd.prog 136 8 := ⟨by kernel_rfl⟩
instance : Zr Tryd.prog 136 (.nilFunc) := ⟨by kernel_rfl⟩
instance : Zc Tryd.prog 136 [.nilFunc] := ⟨⟨.nilFunc, by kernel_rfl, rfl⟩⟩
instance : Sc Tryd.prog 137 := ⟨by kernel_rfl, ⟨_, Tryd.underlying137, rfl⟩⟩
instance : Sz Tryd.prog 137 1 := ⟨by kernel_rfl⟩
instance : By Tryd.prog 137 4 := ⟨by kernel_rfl⟩
instance : Zr Tryd.prog 137 (.int .u32 0) := ⟨by kernel_rfl⟩
instance : Zc Tryd.prog 137 [.int .u32 0] := ⟨⟨.int .u32 0, by kernel_rfl, rfl⟩⟩
instance : Ity Tryd.prog 137 .u32 := ⟨Tryd.underlying137⟩
instance : Ag Tryd.prog 138 8 := ⟨by kernel_rfl, ⟨_, Tryd.underlying138, rfl⟩⟩
instance : Sz Tryd.prog 138 8 := ⟨by kernel_rfl⟩
instance : By Tryd.prog 138 32 := ⟨by kernel_rfl⟩
instance : Zr Tryd.prog 138 (.agg #[.int .u32 0, .int .u32 0, .int .u32 0, .int .u32 0, .int .u32 0, .int .u32 0, .int .u32 0, .int .u32 0]) := ⟨by kernel_rfl⟩
instance : Zc Tryd.prog 138 [.int .u32 0, .int .u32 0, .int .u32 0, .int .u32 0, .int .u32 0, .int .u32 0, .int .u32 0, .int .u32 0] := ⟨⟨.agg #[.int .u32 0, .int .u32 0, .int .u32 0, .int .u32 0, .int .u32 0, .int .u32 0, .int .u32 0, .int .u32 0], by kernel_rfl, rfl⟩⟩
instance : Arr Tryd.prog 138 8 137 := ⟨Tryd.underlying138⟩
instance : Bd Tryd.prog 138 (fun i => some (i * 1, 1)) (Value.cells (.agg #[.int .u32 0, .int .u32 0, .int .u32 0, .int .u32 0, .int .u32 0, .int .u32 0, .int .u32 0, .int .u32 0])) := bd_array Tryd.underlying138 (by kernel_rfl) (by kernel_rfl)
instance : Ag Tryd.prog 139 8 := ⟨by kernel_rfl, ⟨_, Tryd.underlying139, rfl⟩⟩
instance : Sz Tryd.prog 139 8 := ⟨by kernel_rfl⟩
instance : By Tryd.prog 139 32 := ⟨by kernel_rfl⟩
instance : Zr Tryd.prog 139 (.agg #[.int .u32 0, .int .u32 0, .int .u32 0, .int .u32 0, .int .u32 0, .int .u32 0, .int .u32 0, .int .u32 0]) := ⟨by kernel_rfl⟩
instance : Zc Tryd.prog 139 [.int .u32 0, .int .u32 0, .int .u32 0, .int .u32 0, .int .u32 0, .int .u32 0, .int .u32 0, .int .u32 0] := ⟨⟨.agg #[.int .u32 0, .int .u32 0, .int .u32 0, .int .u32 0, .int .u32 0, .int .u32 0, .int .u32 0, .int .u32 0], by kernel_rfl, rfl⟩⟩
instance : Arr Tryd.prog 139 8 137 := ⟨Tryd.underlying139⟩
instance : Bd Tryd.prog 139 (fun i => some (i * 1, 1)) (Value.cells (.agg #[.int .u32 0, .int .u32 0, .int .u32 0, .int .u32 0, .int .u32 0, .int .u32 0, .int .u32 0, .int .u32 0])) := bd_array Tryd.underlying139 (by kernel_rfl) (by kernel_rfl)
instance : Sc Tryd.prog 140 := ⟨by kernel_rfl, ⟨_, Tryd.underlying140, rfl⟩⟩
instance : Sz Tryd.prog 140 1 := ⟨by kernel_rfl⟩
instance : By Tryd.prog 140 8 := ⟨by kernel_rfl⟩
instance : Zr Tryd.prog 140 (.nilFunc) := ⟨by kernel_rfl⟩
instance : Zc Tryd.prog 140 [.nilFunc] := ⟨⟨.nilFunc, by kernel_rfl, rfl⟩⟩
instance : Sc Tryd.prog 141 := ⟨by kernel_rfl, ⟨_, Tryd.underlying141, rfl⟩⟩
instance : Sz Tryd.prog 141 1 := ⟨by kernel_rfl⟩
instance : By Tryd.prog 141 8 := ⟨by kernel_rfl⟩
instance : Zr Tryd.prog 141 (.nilFunc) := ⟨by kernel_rfl⟩
instance : Zc Tryd.prog 141 [.nilFunc] := ⟨⟨.nilFunc, by kernel_rfl, rfl⟩⟩
instance : Sc Tryd.prog 142 := ⟨by kernel_rfl, ⟨_, Tryd.underlying142, rfl⟩⟩
instance : Sz Tryd.prog 142 1 := ⟨by kernel_rfl⟩
instance : By Tryd.prog 142 8 := ⟨by kernel_rfl⟩
instance : Zr Tryd.prog 142 (.nilFunc) := ⟨by kernel_rfl⟩
instance : Zc Tryd.prog 142 [.nilFunc] := ⟨⟨.nilFunc, by kernel_rfl, rfl⟩⟩
instance : Sc Tryd.prog 143 := ⟨by kernel_rfl, ⟨_, Tryd.underlying143, rfl⟩⟩
instance : Sz Tryd.prog 143 1 := ⟨by kernel_rfl⟩
instance : By Tryd.prog 143 8 := ⟨by kernel_rfl⟩
instance : Zr Tryd.prog 143 (.nilFunc) := ⟨by kernel_rfl⟩
instance : Zc Tryd.prog 143 [.nilFunc] := ⟨⟨.nilFunc, by kernel_rfl, rfl⟩⟩
instance : Sc Tryd.prog 144 := ⟨by kernel_rfl, ⟨_, Tryd.underlying144, rfl⟩⟩
instance : Sz Tryd.prog 144 1 := ⟨by kernel_rfl⟩
instance : By Tryd.prog 144 8 := ⟨by kernel_rfl⟩
instance : Zr Tryd.prog 144 (.nilFunc) := ⟨by kernel_rfl⟩
instance : Zc Tryd.prog 144 [.nilFunc] := ⟨⟨.nilFunc, by kernel_rfl, rfl⟩⟩
instance : Sc Tryd.prog 145 := ⟨by kernel_rfl, ⟨_, Tryd.underlying145, rfl⟩⟩
instance : Sz Tryd.prog 145 1 := ⟨by kernel_rfl⟩
instance : By Tryd.prog 145 8 := ⟨by kernel_rfl⟩
instance : Zr Tryd.prog 145 (.nilFunc) := ⟨by kernel_rfl⟩
instance : Zc Tryd.prog 145 [.nilFunc] := ⟨⟨.nilFunc, by kernel_rfl, rfl⟩⟩
instance : Sc Tryd.prog 146 := ⟨by kernel_rfl, ⟨_, Tryd.underlying146, rfl⟩⟩
instance : Sz Tryd.prog 146 1 := ⟨by kernel_rfl⟩
instance : By Tryd.prog 146 8 := ⟨by kernel_rfl⟩
instance : Zr Tryd.prog 146 (.pointer none) := ⟨by kernel_rfl⟩
instance : Zc Tryd.prog 146 [.pointer none] := ⟨⟨.pointer none, by kernel_rfl, rfl⟩⟩
instance : Ag Tryd.prog 147 64 := ⟨by kernel_rfl, ⟨_, Tryd.underlying147, rfl⟩⟩
instance : Sz Tryd.prog 147 64 := ⟨by kernel_rfl⟩
instance : By Tryd.prog 147 256 := ⟨by kernel_rfl⟩
instance : Zr Tryd.prog 147 (.agg #[.int .u32 0, .int .u32 0, .int .u32 0, .int .u32 0, .int .u32 0, .int .u32 0, .int .u32 0, .int .u32 0, .int .u32 0, .int .u32 0, .int .u32 0, .int .u32 0, .int .u32 0, .int .u32 0, .int .u32 0, .int .u32 0, .int .u32 0, .int .u32 0, .int .u32 0, .int .u32 0, .int .u32 0, .int .u32 0, .int .u32 0, .int .u32 0, .int .u32 0, .int .u32 0, .int .u32 0, .int .u32 0, .int .u32 0, .int .u32 0, .int .u32 0, .int .u32 0, .int .u32 0, .int .u32 0, .int .u32 0, .int .u32 0, .int .u32 0, .int .u32 0, .int .u32 0, .int .u32 0, .int .u32 0, .int .u32 0, .int .u32 0, .int .u32 0, .int .u32 0, .int .u32 0, .int .u32 0, .int .u32 0, .int .u32 0, .int .u32 0, .int .u32 0, .int .u32 0, .int .u32 0, .int .u32 0, .int .u32 0, .int .u32 0, .int .u32 0, .int .u32 0, .int .u32 0, .int .u32 0, .int .u32 0, .int .u32 0, .int .u32 0, .int .u32 0]) := ⟨by kernel_rfl⟩
instance : Zc Tryd.prog 147 [.int .u32 0, .int .u32 0, .int .u32 0, .int .u32 0, .int .u32 0, .int .u32 0, .int .u32 0, .int .u32 0, .int .u32 0, .int .u32 0, .int .u32 0, .int .u32 0, .int .u32 0, .int .u32 0, .int .u32 0, .int .u32 0, .int .u32 0, .int .u32 0, .int .u32 0, .int .u32 0, .int .u32 0, .int .u32 0, .int .u32 0, .int .u32 0, .int .u32 0, .int .u32 0, .int .u32 0, .int .u32 0, .int .u32 0, .int .u32 0, .int .u32 0, .int .u32 0, .int .u32 0, .int .u32 0, .int .u32 0, .int .u32 0, .int .u32 0, .int .u32 0, .int .u32 0, .int .u32 0, .int .u32 0, .int .u32 0, .int .u32 0, .int .u32 0, .int .u32 0, .int .u32 0, .int .u32 0, .int .u32 0, .int .u32 0, .int .u32 0, .int .u32 0, .int .u32 0, .int .u32 0, .int .u32 0, .int .u32 0, .int .u32 0, .int .u32 0, .int .u32 0, .int .u32 0, .int .u32 0, .int .u32 0, .int .u32 0, .int .u32 0, .int .u32 0] := ⟨⟨.agg #[.int .u32 0, .int .u32 0, .int .u32 0, .int .u32 0, .int .u32 0, .int .u32 0, .int .u32 0, .int .u32 0, .int .u32 0, .int .u32 0, .int .u32 0, .int .u32 0, .int .u32 0, .int .u32 0, .int .u32 0, .int .u32 0, .int .u32 0, .int .u32 0, .int .u32 0, .int .u32 0, .int .u32 0, .int .u32 0, .int .u32 0, .int .u32 0, .int .u32 0, .int .u32 0, .int .u32 0, .int .u32 0, .int .u32 0, .int .u32 0, .int .u32 0, .int .u32 0, .int .u32 0, .int .u32 0, .int .u32 0, .int .u32 0, .int .u32 0, .int .u32 0, .int .u32 0, .int .u32 0, .int .u32 0, .int .u32 0, .int .u32 0, .int .u32 0, .int .u32 0, .int .u32 0, .int .u32 0, .int .u32 0, .int .u32 0, .int .u32 0, .int .u32 0, .int .u32 0, .int .u32 0, .int .u32 0, .int .u32 0, .int .u32 0, .int .u32 0, .int .u32 0, .int .u32 0, .int .u32 0, .int .u32 0, .int .u32 0, .int .u32 0, .int .u32 0], by kernel_rfl, rfl⟩⟩
instance : Arr Tryd.prog 147 64 137 := ⟨Tryd.underlying147⟩
instance : Bd Tryd.prog 147 (fun i => some (i * 1, 1)) (Value.cells (.agg #[.int .u32 0, .int .u32 0, .int .u32 0, .int .u32 0, .int .u32 0, .int .u32 0, .int .u32 0, .int .u32 0, .int .u32 0, .int .u32 0, .int .u32 0, .int .u32 0, .int .u32 0, .int .u32 0, .int .u32 0, .int .u32 0, .int .u32 0, .int .u32 0, .int .u32 0, .int .u32 0, .int .u32 0, .int .u32 0, .int .u32 0, .int .u32 0, .int .u32 0, .int .u32 0, .int .u32 0, .int .u32 0, .int .u32 0, .int .u32 0, .int .u32 0, .int .u32 0, .int .u32 0, .int .u32 0, .int .u32 0, .int .u32 0, .int .u32 0, .int .u32 0, .int .u32 0, .int .u32 0, .int .u32 0, .int .u32 0, .int .u32 0, .int .u32 0, .int .u32 0, .int .u32 0, .int .u32 0, .int .u32 0, .int .u32 0, .int .u32 0, .int .u32 0, .int .u32 0, .int .u32 0, .int .u32 0, .int .u32 0, .int .u32 0, .int .u32 0, .int .u32 0, .int .u32 0, .int .u32 0, .int .u32 0, .int .u32 0, .int .u32 0, .int .u32 0])) := bd_array Tryd.underlying147 (by kernel_rfl) (by kernel_rfl)
instance : Sc Tryd.prog 148 := ⟨by kernel_rfl, ⟨_, Tryd.underlying148, rfl⟩⟩
instance : Sz Tryd.prog 148 1 := ⟨by kernel_rfl⟩
instance : By Tryd.prog 148 8 := ⟨by kernel_rfl⟩
instance : Zr Tryd.prog 148 (.nilFunc) := ⟨by kernel_rfl⟩
instance : Zc Tryd.prog 148 [.nilFunc] := ⟨⟨.nilFunc, by kernel_rfl, rfl⟩⟩
instance : Sc Tryd.prog 149 := ⟨by kernel_rfl, ⟨_, Tryd.underlying149, rfl⟩⟩
instance : Sz Tryd.prog 149 1 := ⟨by kernel_rfl⟩
instance : By Tryd.prog 149 8 := ⟨by kernel_rfl⟩
instance : Zr Tryd.prog 149 (.nilFunc) := ⟨by kernel_rfl⟩
instance : Zc Tryd.prog 149 [.nilFunc] := ⟨⟨.nilFunc, by kernel_rfl, rfl⟩⟩
instance : Sc Tryd.prog 150 := ⟨by kernel_rfl, ⟨_, Tryd.underlying150, rfl⟩⟩
instance : Sz Tryd.prog 150 1 := ⟨by kernel_rfl⟩
instance : By Tryd.prog 150 24 := ⟨by kernel_rfl⟩
instance : Zr Tryd.prog 150 (.slice none 0 0) := ⟨by kernel_rfl⟩
instance : Zc Tryd.prog 150 [.slice none 0 0] := ⟨⟨.slice none 0 0, by kernel_rfl, rfl⟩⟩
instance : Sli Tryd.prog 150 137 := ⟨Tryd.underlying150⟩
instance : Ag Tryd.prog 151 32 := ⟨by kernel_rfl, ⟨_, Tryd.underlying151, rfl⟩⟩
instance : Sz Tryd.prog 151 32 := ⟨by kernel_rfl⟩
instance : By Tryd.prog 151 32 := ⟨by kernel_rfl⟩
instance : Zr Tryd.prog 151 (.agg #[.int .u8 0, .int .u8 0, .int .u8 0, .int .u8 0, .int .u8 0, .int .u8 0, .int .u8 0, .int .u8 0, .int .u8 0, .int .u8 0, .int .u8 0, .int .u8 0, .int .u8 0, .int .u8 0, .int .u8 0, .int .u8 0, .int .u8 0, .int .u8 0, .int .u8 0, .int .u8 0, .int .u8 0, .int .u8 0, .int .u8 0, .int .u8 0, .int .u8 0, .int .u8 0, .int .u8 0, .int .u8 0, .int .u8 0, .int .u8 0, .int .u8 0, .int .u8 0]) := ⟨by kernel_rfl⟩
instance : Zc Tryd.prog 151 [.int .u8 0, .int .u8 0, .int .u8 0, .int .u8 0, .int .u8 0, .int .u8 0, .int .u8 0, .int .u8 0, .int .u8 0, .int .u8 0, .int .u8 0, .int .u8 0, .int .u8 0, .int .u8 0, .int .u8 0, .int .u8 0, .int .u8 0, .int .u8 0, .int .u8 0, .int .u8 0, .int .u8 0, .int .u8 0, .int .u8 0, .int .u8 0, .int .u8 0, .int .u8 0, .int .u8 0, .int .u8 0, .int .u8 0, .int .u8 0, .int .u8 0, .int .u8 0] := ⟨⟨.agg #[.int .u8 0, .int .u8 0, .int .u8 0, .int .u8 0, .int .u8 0, .int .u8 0, .int .u8 0, .int .u8 0, .int .u8 0, .int .u8 0, .int .u8 0, .int .u8 0, .int .u8 0, .int .u8 0, .int .u8 0, .int .u8 0, .int .u8 0, .int .u8 0, .int .u8 0, .int .u8 0, .int .u8 0, .int .u8 0, .int .u8 0, .int .u8 0, .int .u8 0, .int .u8 0, .int .u8 0, .int .u8 0, .int .u8 0, .int .u8 0, .int .u8 0, .int .u8 0], by kernel_rfl, rfl⟩⟩
instance : Arr Tryd.prog 151 32 5 := ⟨Tryd.underlying151⟩
instance : Bd Tryd.prog 151 (fun i => some (i * 1, 1)) (Value.cells (.agg #[.int .u8 0, .int .u8 0, .int .u8 0, .int .u8 0, .int .u8 0, .int .u8 0, .int .u8 0, .int .u8 0, .int .u8 0, .int .u8 0, .int .u8 0, .int .u8 0, .int .u8 0, .int .u8 0, .int .u8 0, .int .u8 0, .int .u8 0, .int .u8 0, .int .u8 0, .int .u8 0, .int .u8 0, .int .u8 0, .int .u8 0, .int .u8 0, .int .u8 0, .int .u8 0, .int .u8 0, .int .u8 0, .int .u8 0, .int .u8 0, .int .u8 0, .int .u8 0])) := bd_array Tryd.underlying151 (by kernel_rfl) (by kernel_rfl)
instance : Sc Tryd.prog 152 := ⟨by kernel_rfl, ⟨_, Tryd.underlying152, rfl⟩⟩
instance : Sz Tryd.prog 152 1 := ⟨by kernel_rfl⟩
instance : By Tryd.prog 152 24 := ⟨by kernel_rfl⟩
instance : Zr Tryd.prog 152 (.slice none 0 0) := ⟨by kernel_rfl⟩
instance : Zc Tryd.prog 152 [.slice none 0 0] := ⟨⟨.slice none 0 0, by kernel_rfl, rfl⟩⟩
instance : Sli Tryd.prog 152 3 := ⟨Tryd.underlying152⟩
instance : Sc Tryd.prog 153 := ⟨by kernel_rfl, ⟨_, Tryd.underlying153, rfl⟩⟩
instance : Sz Tryd.prog 153 1 := ⟨by kernel_rfl⟩
instance : By Tryd.prog 153 8 := ⟨by kernel_rfl⟩
instance : Zr Tryd.prog 153 (.nilFunc) := ⟨by kernel_rfl⟩
instance : Zc Tryd.prog 153 [.nilFunc] := ⟨⟨.nilFunc, by kernel_rfl, rfl⟩⟩
instance : Sc Tryd.prog 154 := ⟨by kernel_rfl, ⟨_, Tryd.underlying154, rfl⟩⟩
instance : Sz Tryd.prog 154 1 := ⟨by kernel_rfl⟩
instance : By Tryd.prog 154 8 := ⟨by kernel_rfl⟩
instance : Zr Tryd.prog 154 (.nilFunc) := ⟨by kernel_rfl⟩
instance : Zc Tryd.prog 154 [.nilFunc] := ⟨⟨.nilFunc, by kernel_rfl, rfl⟩⟩
instance : Sc Tryd.prog 155 := ⟨by kernel_rfl, ⟨_, Tryd.underlying155, rfl⟩⟩
instance : Sz Tryd.prog 155 1 := ⟨by kernel_rfl⟩
instance : By Tryd.prog 155 8 := ⟨by kernel_rfl⟩
instance : Zr Tryd.prog 155 (.pointer none) := ⟨by kernel_rfl⟩
instance : Zc Tryd.prog 155 [.pointer none] := ⟨⟨.pointer none, by kernel_rfl, rfl⟩⟩
instance : Ag Tryd.prog 156 4 := ⟨by kernel_rfl, ⟨_, Tryd.underlying156, rfl⟩⟩
instance : Sz Tryd.prog 156 4 := ⟨by kernel_rfl⟩
instance : By Tryd.prog 156 40 := ⟨by kernel_rfl⟩
instance : Zr Tryd.prog 156 (.agg #[.pointer none, .pointer none, .pointer none, .string ByteArray.empty]) := ⟨by kernel_rfl⟩
instance : Zc Tryd.prog 156 [.pointer none, .pointer none, .pointer none, .string ByteArray.empty] := ⟨⟨.agg #[.pointer none, .pointer none, .pointer none, .string ByteArray.empty], by kernel_rfl, rfl⟩⟩
instance : Fi Tryd.prog 156 0 0 17 := ⟨⟨_, _, Tryd.underlying156, rfl, rfl, rfl⟩, ⟨1, by kernel_rfl, by decide⟩⟩
instance : Fi Tryd.prog 156 1 1 17 := ⟨⟨_, _, Tryd.underlying156, rfl, rfl, rfl⟩, ⟨1, by kernel_rfl, by decide⟩⟩
instance : Fi Tryd.prog 156 2 2 17 := ⟨⟨_, _, Tryd.underlying156, rfl, rfl, rfl⟩, ⟨1, by kernel_rfl, by decide⟩⟩
instance : Fi Tryd.prog 156 3 3 9 := ⟨⟨_, _, Tryd.underlying156, rfl, rfl, rfl⟩, ⟨1, by kernel_rfl, by decide⟩⟩
instance : Bd Tryd.prog 156 (fun i : Nat => ([(0, 1), (1, 1), (2, 1), (3, 1)] : List (Nat × Nat))[i]?) (Value.cells (.agg #[.pointer none, .pointer none, .pointer none, .string ByteArray.empty])) := bd_struct Tryd.underlying156 (by kernel_rfl) (by kernel_rfl)
instance : Ag Tryd.prog 157 4 := ⟨by kernel_rfl, ⟨_, Tryd.underlying157, rfl⟩⟩
instance : Sz Tryd.prog 157 4 := ⟨by kernel_rfl⟩
instance : By Tryd.prog 157 40 := ⟨by kernel_rfl⟩
instance : Zr Tryd.prog 157 (.agg #[.pointer none, .pointer none, .pointer none, .string ByteArray.empty]) := ⟨by kernel_rfl⟩
instance : Zc Tryd.prog 157 [.pointer none, .pointer none, .pointer none, .string ByteArray.empty] := ⟨⟨.agg #[.pointer none, .pointer none, .pointer none, .string ByteArray.empty], by kernel_rfl, rfl⟩⟩
instance : Fi Tryd.prog 157 0 0 17 := ⟨⟨_, _, Tryd.underlying157, rfl, rfl, rfl⟩, ⟨1, by kernel_rfl, by decide⟩⟩
instance : Fi Tryd.prog 157 1 1 17 := ⟨⟨_, _, Tryd.underlying157, rfl, rfl, rfl⟩, ⟨1, by kernel_rfl, by decide⟩⟩
instance : Fi Tryd.prog 157 2 2 17 := ⟨⟨_, _, Tryd.underlying157, rfl, rfl, rfl⟩, ⟨1, by kernel_rfl, by decide⟩⟩
instance : Fi Tryd.prog 157 3 3 9 := ⟨⟨_, _, Tryd.underlying157, rfl, rfl, rfl⟩, ⟨1, by kernel_rfl, by decide⟩⟩
instance : Bd Tryd.prog 157 (fun i : Nat => ([(0, 1), (1, 1), (2, 1), (3, 1)] : List (Nat × Nat))[i]?) (Value.cells (.agg #[.pointer none, .pointer none, .pointer none, .string ByteArray.empty])) := bd_struct Tryd.underlying157 (by kernel_rfl) (by kernel_rfl)
instance : Sz Tryd.prog 158 0 := ⟨by kernel_rfl⟩
instance : By Tryd.prog 158 0 := ⟨by kernel_rfl⟩
instance : Zr Tryd.prog 158 (.agg #[]) := ⟨by kernel_rfl⟩
instance : Zc Tryd.prog 158 [] := ⟨⟨.agg #[], by kernel_rfl, rfl⟩⟩
instance : Arr Tryd.prog 158 0 16 := ⟨Tryd.underlying158⟩
instance : Bd Tryd.prog 158 (fun i => some (i * 1, 1)) (Value.cells (.agg #[])) := bd_array Tryd.underlying158 (by kernel_rfl) (by kernel_rfl)
instance : Sz Tryd.prog 159 0 := ⟨by kernel_rfl⟩
instance : By Tryd.prog 159 0 := ⟨by kernel_rfl⟩
instance : Zr Tryd.prog 159 (.agg #[]) := ⟨by kernel_rfl⟩
instance : Zc Tryd.prog 159 [] := ⟨⟨.agg #[], by kernel_rfl, rfl⟩⟩
instance : Bd Tryd.prog 159 (fun i : Nat => ([(0, 0)] : List (Nat × Nat))[i]?) (Value.cells (.agg #[])) := bd_struct Tryd.underlying159 (by kernel_rfl) (by kernel_rfl)
instance : Sz Tryd.prog 160 0 := ⟨by kernel_rfl⟩
instance : By Tryd.prog 160 0 := ⟨by kernel_rfl⟩
instance : Zr Tryd.prog 160 (.agg #[]) := ⟨by kernel_rfl⟩
instance : Zc Tryd.prog 160 [] := ⟨⟨.agg #[], by kernel_rfl, rfl⟩⟩
instance : Bd Tryd.prog 160 (fun i : Nat => ([(0, 0)] : List (Nat × Nat))[i]?) (Value.cells (.agg #[])) := bd_struct Tryd.underlying160 (by kernel_rfl) (by kernel_rfl)
instance : Sc Tryd.prog 161 := ⟨by kernel_rfl, ⟨_, Tryd.underlying161, rfl⟩⟩
instance : Sz Tryd.prog 161 1 := ⟨by kernel_rfl⟩
instance : By Tryd.prog 161 1 := ⟨by kernel_rfl⟩
instance : Zr Tryd.prog 161 (.int .u8 0) := ⟨by kernel_rfl⟩
instance : Zc Tryd.prog 161 [.int .u8 0] := ⟨⟨.int .u8 0, by kernel_rfl, rfl⟩⟩
instance : Ity Tryd.prog 161 .u8 := ⟨Tryd.underlying161⟩
instance : Sc Tryd.prog 162 := ⟨by kernel_rfl, ⟨_, Tryd.underlying162, rfl⟩⟩
instance : Sz Tryd.prog 162 1 := ⟨by kernel_rfl⟩
instance : By Tryd.prog 162 1 := ⟨by kernel_rfl⟩
instance : Zr Tryd.prog 162 (.int .u8 0) := ⟨by kernel_rfl⟩
instance : Zc Tryd.prog 162 [.int .u8 0] := ⟨⟨.int .u8 0, by kernel_rfl, rfl⟩⟩
instance : Ity Tryd.prog 162 .u8 := ⟨Tryd.underlying162⟩
instance : Sc Tryd.prog 163 := ⟨by kernel_rfl, ⟨_, Tryd.underlying163, rfl⟩⟩
instance : Sz Tryd.prog 163 1 := ⟨by kernel_rfl⟩
instance : By Tryd.prog 163 8 := ⟨by kernel_rfl⟩
instance : Zr Tryd.prog 163 (.nilFunc) := ⟨by kernel_rfl⟩
instance : Zc Tryd.prog 163 [.nilFunc] := ⟨⟨.nilFunc, by kernel_rfl, rfl⟩⟩
instance : Sc Tryd.prog 164 := ⟨by kernel_rfl, ⟨_, Tryd.underlying164, rfl⟩⟩
instance : Sz Tryd.prog 164 1 := ⟨by kernel_rfl⟩
instance : By Tryd.prog 164 4 := ⟨by kernel_rfl⟩
instance : Zr Tryd.prog 164 (.int .i32 0) := ⟨by kernel_rfl⟩
instance : Zc Tryd.prog 164 [.int .i32 0] := ⟨⟨.int .i32 0, by kernel_rfl, rfl⟩⟩
instance : Ity Tryd.prog 164 .i32 := ⟨Tryd.underlying164⟩
instance : Sc Tryd.prog 165 := ⟨by kernel_rfl, ⟨_, Tryd.underlying165, rfl⟩⟩
instance : Sz Tryd.prog 165 1 := ⟨by kernel_rfl⟩
instance : By Tryd.prog 165 4 := ⟨by kernel_rfl⟩
instance : Zr Tryd.prog 165 (.int .i32 0) := ⟨by kernel_rfl⟩
instance : Zc Tryd.prog 165 [.int .i32 0] := ⟨⟨.int .i32 0, by kernel_rfl, rfl⟩⟩
instance : Ity Tryd.prog 165 .i32 := ⟨Tryd.underlying165⟩
instance : Ag Tryd.prog 166 11 := ⟨by kernel_rfl, ⟨_, Tryd.underlying166, rfl⟩⟩
instance : Sz Tryd.prog 166 11 := ⟨by kernel_rfl⟩
instance : By Tryd.prog 166 48 := ⟨by kernel_rfl⟩
instance : Zr Tryd.prog 166 (.agg #[.int .u64 0, .int .u64 0, .int .u32 0, .int .u8 0, .int .u8 0, .int .u8 0, .int .u8 0, .nilFunc, .pointer none, .int .i32 0, .int .i32 0]) := ⟨by kernel_rfl⟩
instance : Zc Tryd.prog 166 [.int .u64 0, .int .u64 0, .int .u32 0, .int .u8 0, .int .u8 0, .int .u8 0, .int .u8 0, .nilFunc, .pointer none, .int .i32 0, .int .i32 0] := ⟨⟨.agg #[.int .u64 0, .int .u64 0, .int .u32 0, .int .u8 0, .int .u8 0, .int .u8 0, .int .u8 0, .nilFunc, .pointer none, .int .i32 0, .int .i32 0], by kernel_rfl, rfl⟩⟩
instance : Fi Tryd.prog 166 0 0 12 := ⟨⟨_, _, Tryd.underlying166, rfl, rfl, rfl⟩, ⟨1, by kernel_rfl, by decide⟩⟩
instance : Fi Tryd.prog 166 1 1 12 := ⟨⟨_, _, Tryd.underlying166, rfl, rfl, rfl⟩, ⟨1, by kernel_rfl, by decide⟩⟩
instance : Fi Tryd.prog 166 2 2 137 := ⟨⟨_, _, Tryd.underlying166, rfl, rfl, rfl⟩, ⟨1, by kernel_rfl, by decide⟩⟩
instance : Fi Tryd.prog 166 3 3 161 := ⟨⟨_, _, Tryd.underlying166, rfl, rfl, rfl⟩, ⟨1, by kernel_rfl, by decide⟩⟩
instance : Fi Tryd.prog 166 4 4 5 := ⟨⟨_, _, Tryd.underlying166, rfl, rfl, rfl⟩, ⟨1, by kernel_rfl, by decide⟩⟩
instance : Fi Tryd.prog 166 5 5 5 := ⟨⟨_, _, Tryd.underlying166, rfl, rfl, rfl⟩, ⟨1, by kernel_rfl, by decide⟩⟩
instance : Fi Tryd.prog 166 6 6 162 := ⟨⟨_, _, Tryd.underlying166, rfl, rfl, rfl⟩, ⟨1, by kernel_rfl, by decide⟩⟩
instance : Fi Tryd.prog 166 7 7 163 := ⟨⟨_, _, Tryd.underlying166, rfl, rfl, rfl⟩, ⟨1, by kernel_rfl, by decide⟩⟩
instance : Fi Tryd.prog 166 8 8 94 := ⟨⟨_, _, Tryd.underlying166, rfl, rfl, rfl⟩, ⟨1, by kernel_rfl, by decide⟩⟩
instance : Fi Tryd.prog 166 9 9 164 := ⟨⟨_, _, Tryd.underlying166, rfl, rfl, rfl⟩, ⟨1, by kernel_rfl, by decide⟩⟩
instance : Fi Tryd.prog 166 10 10 165 := ⟨⟨_, _, Tryd.underlying166, rfl, rfl, rfl⟩, ⟨1, by kernel_rfl, by decide⟩⟩
instance : Bd Tryd.prog 166 (fun i : Nat => ([(0, 1), (1, 1), (2, 1), (3, 1), (4, 1), (5, 1), (6, 1), (7, 1), (8, 1), (9, 1), (10, 1)] : List (Nat × Nat))[i]?) (Value.cells (.agg #[.int .u64 0, .int .u64 0, .int .u32 0, .int .u8 0, .int .u8 0, .int .u8 0, .int .u8 0, .nilFunc, .pointer none, .int .i32 0, .int .i32 0])) := bd_struct Tryd.underlying166 (by kernel_rfl) (by kernel_rfl)
instance : Ag Tryd.prog 167 11 := ⟨by kernel_rfl, ⟨_, Tryd.underlying167, rfl⟩⟩
instance : Sz Tryd.prog 167 11 := ⟨by kernel_rfl⟩
instance : By Tryd.prog 167 48 := ⟨by kernel_rfl⟩
instance : Zr Tryd.prog 167 (.agg #[.int .u64 0, .int .u64 0, .int .u32 0, .int .u8 0, .int .u8 0, .int .u8 0, .int .u8 0, .nilFunc, .pointer none, .int .i32 0, .int .i32 0]) := ⟨by kernel_rfl⟩
instance : Zc Tryd.prog 167 [.int .u64 0, .int .u64 0, .int .u32 0, .int .u8 0, .int .u8 0, .int .u8 0, .int .u8 0, .nilFunc, .pointer none, .int .i32 0, .int .i32 0] := ⟨⟨.agg #[.int .u64 0, .int .u64 0, .int .u32 0, .int .u8 0, .int .u8 0, .int .u8 0, .int .u8 0, .nilFunc, .pointer none, .int .i32 0, .int .i32 0], by kernel_rfl, rfl⟩⟩
instance : Fi Tryd.prog 167 0 0 12 := ⟨⟨_, _, Tryd.underlying167, rfl, rfl, rfl⟩, ⟨1, by kernel_rfl, by decide⟩⟩
instance : Fi Tryd.prog 167 1 1 12 := ⟨⟨_, _, Tryd.underlying167, rfl, rfl, rfl⟩, ⟨1, by kernel_rfl, by decide⟩⟩
instance : Fi Tryd.prog 167 2 2 137 := ⟨⟨_, _, Tryd.underlying167, rfl, rfl, rfl⟩, ⟨1, by kernel_rfl, by decide⟩⟩
instance : Fi Tryd.prog 167 3 3 161 := ⟨⟨_, _, Tryd.underlying167, rfl, rfl, rfl⟩, ⟨1, by kernel_rfl, by decide⟩⟩
instance : Fi Tryd.prog 167 4 4 5 := ⟨⟨_, _, Tryd.underlying167, rfl, rfl, rfl⟩, ⟨1, by kernel_rfl, by decide⟩⟩
instance : Fi Tryd.prog 167 5 5 5 := ⟨⟨_, _, Tryd.underlying167, rfl, rfl, rfl⟩, ⟨1, by kernel_rfl, by decide⟩⟩
instance : Fi Tryd.prog 167 6 6 162 := ⟨⟨_, _, Tryd.underlying167, rfl, rfl, rfl⟩, ⟨1, by kernel_rfl, by decide⟩⟩
instance : Fi Tryd.prog 167 7 7 163 := ⟨⟨_, _, Tryd.underlying167, rfl, rfl, rfl⟩, ⟨1, by kernel_rfl, by decide⟩⟩
instance : Fi Tryd.prog 167 8 8 94 := ⟨⟨_, _, Tryd.underlying167, rfl, rfl, rfl⟩, ⟨1, by kernel_rfl, by decide⟩⟩
instance : Fi Tryd.prog 167 9 9 164 := ⟨⟨_, _, Tryd.underlying167, rfl, rfl, rfl⟩, ⟨1, by kernel_rfl, by decide⟩⟩
instance : Fi Tryd.prog 167 10 10 165 := ⟨⟨_, _, Tryd.underlying167, rfl, rfl, rfl⟩, ⟨1, by kernel_rfl, by decide⟩⟩
instance : Bd Tryd.prog 167 (fun i : Nat => ([(0, 1), (1, 1), (2, 1), (3, 1), (4, 1), (5, 1), (6, 1), (7, 1), (8, 1), (9, 1), (10, 1)] : List (Nat × Nat))[i]?) (Value.cells (.agg #[.int .u64 0, .int .u64 0, .int .u32 0, .int .u8 0, .int .u8 0, .int .u8 0, .int .u8 0, .nilFunc, .pointer none, .int .i32 0, .int .i32 0])) := bd_struct Tryd.underlying167 (by kernel_rfl) (by kernel_rfl)
instance : Sc Tryd.prog 168 := ⟨by kernel_rfl, ⟨_, Tryd.underlying168, rfl⟩⟩
instance : Sz Tryd.prog 168 1 := ⟨by kernel_rfl⟩
instance : By Tryd.prog 168 8 := ⟨by kernel_rfl⟩
instance : Zr Tryd.prog 168 (.nilFunc) := ⟨by kernel_rfl⟩
instance : Zc Tryd.prog 168 [.nilFunc] := ⟨⟨.nilFunc, by kernel_rfl, rfl⟩⟩
instance : Sc Tryd.prog 169 := ⟨by kernel_rfl, ⟨_, Tryd.underlying169, rfl⟩⟩
instance : Sz Tryd.prog 169 1 := ⟨by kernel_rfl⟩
instance : By Tryd.prog 169 8 := ⟨by kernel_rfl⟩
instance : Zr Tryd.prog 169 (.nilFunc) := ⟨by kernel_rfl⟩
instance : Zc Tryd.prog 169 [.nilFunc] := ⟨⟨.nilFunc, by kernel_rfl, rfl⟩⟩
instance : Sc Tryd.prog 170 := ⟨by kernel_rfl, ⟨_, Tryd.underlying170, rfl⟩⟩
instance : Sz Tryd.prog 170 1 := ⟨by kernel_rfl⟩
instance : By Tryd.prog 170 8 := ⟨by kernel_rfl⟩
instance : Zr Tryd.prog 170 (.nilFunc) := ⟨by kernel_rfl⟩
instance : Zc Tryd.prog 170 [.nilFunc] := ⟨⟨.nilFunc, by kernel_rfl, rfl⟩⟩
instance : Sc Tryd.prog 171 := ⟨by kernel_rfl, ⟨_, Tryd.underlying171, rfl⟩⟩
instance : Sz Tryd.prog 171 1 := ⟨by kernel_rfl⟩
instance : By Tryd.prog 171 8 := ⟨by kernel_rfl⟩
instance : Zr Tryd.prog 171 (.nilFunc) := ⟨by kernel_rfl⟩
instance : Zc Tryd.prog 171 [.nilFunc] := ⟨⟨.nilFunc, by kernel_rfl, rfl⟩⟩
instance : Sc Tryd.prog 172 := ⟨by kernel_rfl, ⟨_, Tryd.underlying172, rfl⟩⟩
instance : Sz Tryd.prog 172 1 := ⟨by kernel_rfl⟩
instance : By Tryd.prog 172 8 := ⟨by kernel_rfl⟩
instance : Zr Tryd.prog 172 (.nilFunc) := ⟨by kernel_rfl⟩
instance : Zc Tryd.prog 172 [.nilFunc] := ⟨⟨.nilFunc, by kernel_rfl, rfl⟩⟩
instance : Sc Tryd.prog 173 := ⟨by kernel_rfl, ⟨_, Tryd.underlying173, rfl⟩⟩
instance : Sz Tryd.prog 173 1 := ⟨by kernel_rfl⟩
instance : By Tryd.prog 173 8 := ⟨by kernel_rfl⟩
instance : Zr Tryd.prog 173 (.nilFunc) := ⟨by kernel_rfl⟩
instance : Zc Tryd.prog 173 [.nilFunc] := ⟨⟨.nilFunc, by kernel_rfl, rfl⟩⟩
instance : Ag Tryd.prog 174 2 := ⟨by kernel_rfl, ⟨_, Tryd.underlying174, rfl⟩⟩
instance : Sz Tryd.prog 174 2 := ⟨by kernel_rfl⟩
instance : By Tryd.prog 174 24 := ⟨by kernel_rfl⟩
instance : Zr Tryd.prog 174 (.agg #[.string ByteArray.empty, .int .u8 0]) := ⟨by kernel_rfl⟩
instance : Zc Tryd.prog 174 [.string ByteArray.empty, .int .u8 0] := ⟨⟨.agg #[.string ByteArray.empty, .int .u8 0], by kernel_rfl, rfl⟩⟩
instance : Fi Tryd.prog 174 0 0 9 := ⟨⟨_, _, Tryd.underlying174, rfl, rfl, rfl⟩, ⟨1, by kernel_rfl, by decide⟩⟩
instance : Fi Tryd.prog 174 1 1 162 := ⟨⟨_, _, Tryd.underlying174, rfl, rfl, rfl⟩, ⟨1, by kernel_rfl, by decide⟩⟩
instance : Bd Tryd.prog 174 (fun i : Nat => ([(0, 1), (1, 1)] : List (Nat × Nat))[i]?) (Value.cells (.agg #[.string ByteArray.empty, .int .u8 0])) := bd_struct Tryd.underlying174 (by kernel_rfl) (by kernel_rfl)
instance : Ag Tryd.prog 175 2 := ⟨by kernel_rfl, ⟨_, Tryd.underlying175, rfl⟩⟩
instance : Sz Tryd.prog 175 2 := ⟨by kernel_rfl⟩
instance : By Tryd.prog 175 24 := ⟨by kernel_rfl⟩
instance : Zr Tryd.prog 175 (.agg #[.string ByteArray.empty, .int .u8 0]) := ⟨by kernel_rfl⟩
instance : Zc Tryd.prog 175 [.string ByteArray.empty, .int .u8 0] := ⟨⟨.agg #[.string ByteArray.empty, .int .u8 0], by kernel_rfl, rfl⟩⟩
instance : Fi Tryd.prog 175 0 0 9 := ⟨⟨_, _, Tryd.underlying175, rfl, rfl, rfl⟩, ⟨1, by kernel_rfl, by decide⟩⟩
instance : Fi Tryd.prog 175 1 1 162 := ⟨⟨_, _, Tryd.underlying175, rfl, rfl, rfl⟩, ⟨1, by kernel_rfl, by decide⟩⟩
instance : Bd Tryd.prog 175 (fun i : Nat => ([(0, 1), (1, 1)] : List (Nat × Nat))[i]?) (Value.cells (.agg #[.string ByteArray.empty, .int .u8 0])) := bd_struct Tryd.underlying175 (by kernel_rfl) (by kernel_rfl)
instance : Ag Tryd.prog 176 1 := ⟨by kernel_rfl, ⟨_, Tryd.underlying176, rfl⟩⟩
instance : Sz Tryd.prog 176 1 := ⟨by kernel_rfl⟩
instance : By Tryd.prog 176 16 := ⟨by kernel_rfl⟩
instance : Zr Tryd.prog 176 (.agg #[.string ByteArray.empty]) := ⟨by kernel_rfl⟩
instance : Zc Tryd.prog 176 [.string ByteArray.empty] := ⟨⟨.agg #[.string ByteArray.empty], by kernel_rfl, rfl⟩⟩
instance : Fi Tryd.prog 176 0 0 9 := ⟨⟨_, _, Tryd.underlying176, rfl, rfl, rfl⟩, ⟨1, by kernel_rfl, by decide⟩⟩
instance : Bd Tryd.prog 176 (fun i : Nat => ([(0, 1)] : List (Nat × Nat))[i]?) (Value.cells (.agg #[.string ByteArray.empty])) := bd_struct Tryd.underlying176 (by kernel_rfl) (by kernel_rfl)
instance : Ag Tryd.prog 177 1 := ⟨by kernel_rfl, ⟨_, Tryd.underlying177, rfl⟩⟩
instance : Sz Tryd.prog 177 1 := ⟨by kernel_rfl⟩
instance : By Tryd.prog 177 16 := ⟨by kernel_rfl⟩
instance : Zr Tryd.prog 177 (.agg #[.string ByteArray.empty]) := ⟨by kernel_rfl⟩
instance : Zc Tryd.prog 177 [.string ByteArray.empty] := ⟨⟨.agg #[.string ByteArray.empty], by kernel_rfl, rfl⟩⟩
instance : Fi Tryd.prog 177 0 0 9 := ⟨⟨_, _, Tryd.underlying177, rfl, rfl, rfl⟩, ⟨1, by kernel_rfl, by decide⟩⟩
instance : Bd Tryd.prog 177 (fun i : Nat => ([(0, 1)] : List (Nat × Nat))[i]?) (Value.cells (.agg #[.string ByteArray.empty])) := bd_struct Tryd.underlying177 (by kernel_rfl) (by kernel_rfl)
instance : Sc Tryd.prog 178 := ⟨by kernel_rfl, ⟨_, Tryd.underlying178, rfl⟩⟩
instance : Sz Tryd.prog 178 1 := ⟨by kernel_rfl⟩
instance : By Tryd.prog 178 8 := ⟨by kernel_rfl⟩
instance : Zr Tryd.prog 178 (.pointer none) := ⟨by kernel_rfl⟩
instance : Zc Tryd.prog 178 [.pointer none] := ⟨⟨.pointer none, by kernel_rfl, rfl⟩⟩
instance : Sc Tryd.prog 179 := ⟨by kernel_rfl, ⟨_, Tryd.underlying179, rfl⟩⟩
instance : Sz Tryd.prog 179 1 := ⟨by kernel_rfl⟩
instance : By Tryd.prog 179 8 := ⟨by kernel_rfl⟩
instance : Zr Tryd.prog 179 (.nilFunc) := ⟨by kernel_rfl⟩
instance : Zc Tryd.prog 179 [.nilFunc] := ⟨⟨.nilFunc, by kernel_rfl, rfl⟩⟩
instance : Sc Tryd.prog 180 := ⟨by kernel_rfl, ⟨_, Tryd.underlying180, rfl⟩⟩
instance : Sz Tryd.prog 180 1 := ⟨by kernel_rfl⟩
instance : By Tryd.prog 180 2 := ⟨by kernel_rfl⟩
instance : Zr Tryd.prog 180 (.int .u16 0) := ⟨by kernel_rfl⟩
instance : Zc Tryd.prog 180 [.int .u16 0] := ⟨⟨.int .u16 0, by kernel_rfl, rfl⟩⟩
instance : Ity Tryd.prog 180 .u16 := ⟨Tryd.underlying180⟩
instance : Ag Tryd.prog 181 5 := ⟨by kernel_rfl, ⟨_, Tryd.underlying181, rfl⟩⟩
instance : Sz Tryd.prog 181 5 := ⟨by kernel_rfl⟩
instance : By Tryd.prog 181 16 := ⟨by kernel_rfl⟩
instance : Zr Tryd.prog 181 (.agg #[.int .i32 0, .int .u16 0, .int .u16 0, .int .u32 0, .int .u32 0]) := ⟨by kernel_rfl⟩
instance : Zc Tryd.prog 181 [.int .i32 0, .int .u16 0, .int .u16 0, .int .u32 0, .int .u32 0] := ⟨⟨.agg #[.int .i32 0, .int .u16 0, .int .u16 0, .int .u32 0, .int .u32 0], by kernel_rfl, rfl⟩⟩
instance : Fi Tryd.prog 181 0 0 164 := ⟨⟨_, _, Tryd.underlying181, rfl, rfl, rfl⟩, ⟨1, by kernel_rfl, by decide⟩⟩
instance : Fi Tryd.prog 181 1 1 180 := ⟨⟨_, _, Tryd.underlying181, rfl, rfl, rfl⟩, ⟨1, by kernel_rfl, by decide⟩⟩
instance : Fi Tryd.prog 181 2 2 180 := ⟨⟨_, _, Tryd.underlying181, rfl, rfl, rfl⟩, ⟨1, by kernel_rfl, by decide⟩⟩
instance : Fi Tryd.prog 181 3 3 137 := ⟨⟨_, _, Tryd.underlying181, rfl, rfl, rfl⟩, ⟨1, by kernel_rfl, by decide⟩⟩
instance : Fi Tryd.prog 181 4 4 137 := ⟨⟨_, _, Tryd.underlying181, rfl, rfl, rfl⟩, ⟨1, by kernel_rfl, by decide⟩⟩
instance : Bd Tryd.prog 181 (fun i : Nat => ([(0, 1), (1, 1), (2, 1), (3, 1), (4, 1)] : List (Nat × Nat))[i]?) (Value.cells (.agg #[.int .i32 0, .int .u16 0, .int .u16 0, .int .u32 0, .int .u32 0])) := bd_struct Tryd.underlying181 (by kernel_rfl) (by kernel_rfl)
instance : Ag Tryd.prog 182 5 := ⟨by kernel_rfl, ⟨_, Tryd.underlying182, rfl⟩⟩
instance : Sz Tryd.prog 182 5 := ⟨by kernel_rfl⟩
instance : By Tryd.prog 182 16 := ⟨by kernel_rfl⟩
instance : Zr Tryd.prog 182 (.agg #[.int .i32 0, .int .u16 0, .int .u16 0, .int .u32 0, .int .u32 0]) := ⟨by kernel_rfl⟩
instance : Zc Tryd.prog 182 [.int .i32 0, .int .u16 0, .int .u16 0, .int .u32 0, .int .u32 0] := ⟨⟨.agg #[.int .i32 0, .int .u16 0, .int .u16 0, .int .u32 0, .int .u32 0], by kernel_rfl, rfl⟩⟩
instance : Fi Tryd.prog 182 0 0 164 := ⟨⟨_, _, Tryd.underlying182, rfl, rfl, rfl⟩, ⟨1, by kernel_rfl, by decide⟩⟩
instance : Fi Tryd.prog 182 1 1 180 := ⟨⟨_, _, Tryd.underlying182, rfl, rfl, rfl⟩, ⟨1, by kernel_rfl, by decide⟩⟩
instance : Fi Tryd.prog 182 2 2 180 := ⟨⟨_, _, Tryd.underlying182, rfl, rfl, rfl⟩, ⟨1, by kernel_rfl, by decide⟩⟩
instance : Fi Tryd.prog 182 3 3 137 := ⟨⟨_, _, Tryd.underlying182, rfl, rfl, rfl⟩, ⟨1, by kernel_rfl, by decide⟩⟩
instance : Fi Tryd.prog 182 4 4 137 := ⟨⟨_, _, Tryd.underlying182, rfl, rfl, rfl⟩, ⟨1, by kernel_rfl, by decide⟩⟩
instance : Bd Tryd.prog 182 (fun i : Nat => ([(0, 1), (1, 1), (2, 1), (3, 1), (4, 1)] : List (Nat × Nat))[i]?) (Value.cells (.agg #[.int .i32 0, .int .u16 0, .int .u16 0, .int .u32 0, .int .u32 0])) := bd_struct Tryd.underlying182 (by kernel_rfl) (by kernel_rfl)
instance : Sc Tryd.prog 183 := ⟨by kernel_rfl, ⟨_, Tryd.underlying183, rfl⟩⟩
instance : Sz Tryd.prog 183 1 := ⟨by kernel_rfl⟩
instance : By Tryd.prog 183 24 := ⟨by kernel_rfl⟩
instance : Zr Tryd.prog 183 (.slice none 0 0) := ⟨by kernel_rfl⟩
instance : Zc Tryd.prog 183 [.slice none 0 0] := ⟨⟨.slice none 0 0, by kernel_rfl, rfl⟩⟩
instance : Sli Tryd.prog 183 186 := ⟨Tryd.underlying183⟩
instance : Sc Tryd.prog 184 := ⟨by kernel_rfl, ⟨_, Tryd.underlying184, rfl⟩⟩
instance : Sz Tryd.prog 184 1 := ⟨by kernel_rfl⟩
instance : By Tryd.prog 184 4 := ⟨by kernel_rfl⟩
instance : Zr Tryd.prog 184 (.int .i32 0) := ⟨by kernel_rfl⟩
instance : Zc Tryd.prog 184 [.int .i32 0] := ⟨⟨.int .i32 0, by kernel_rfl, rfl⟩⟩
instance : Ity Tryd.prog 184 .i32 := ⟨Tryd.underlying184⟩
instance : Ag Tryd.prog 185 4 := ⟨by kernel_rfl, ⟨_, Tryd.underlying185, rfl⟩⟩
instance : Sz Tryd.prog 185 4 := ⟨by kernel_rfl⟩
instance : By Tryd.prog 185 16 := ⟨by kernel_rfl⟩
instance : Zr Tryd.prog 185 (.agg #[.int .i32 0, .int .i32 0, .int .i32 0, .int .i32 0]) := ⟨by kernel_rfl⟩
instance : Zc Tryd.prog 185 [.int .i32 0, .int .i32 0, .int .i32 0, .int .i32 0] := ⟨⟨.agg #[.int .i32 0, .int .i32 0, .int .i32 0, .int .i32 0], by kernel_rfl, rfl⟩⟩
instance : Fi Tryd.prog 185 0 0 164 := ⟨⟨_, _, Tryd.underlying185, rfl, rfl, rfl⟩, ⟨1, by kernel_rfl, by decide⟩⟩
instance : Fi Tryd.prog 185 1 1 165 := ⟨⟨_, _, Tryd.underlying185, rfl, rfl, rfl⟩, ⟨1, by kernel_rfl, by decide⟩⟩
instance : Fi Tryd.prog 185 2 2 184 := ⟨⟨_, _, Tryd.underlying185, rfl, rfl, rfl⟩, ⟨1, by kernel_rfl, by decide⟩⟩
instance : Fi Tryd.prog 185 3 3 184 := ⟨⟨_, _, Tryd.underlying185, rfl, rfl, rfl⟩, ⟨1, by kernel_rfl, by decide⟩⟩
instance : Bd Tryd.prog 185 (fun i : Nat => ([(0, 1), (1, 1), (2, 1), (3, 1)] : List (Nat × Nat))[i]?) (Value.cells (.agg #[.int .i32 0, .int .i32 0, .int .i32 0, .int .i32 0])) := bd_struct Tryd.underlying185 (by kernel_rfl) (by kernel_rfl)
instance : Ag Tryd.prog 186 4 := ⟨by kernel_rfl, ⟨_, Tryd.underlying186, rfl⟩⟩
instance : Sz Tryd.prog 186 4 := ⟨by kernel_rfl⟩
instance : By Tryd.prog 186 16 := ⟨by kernel_rfl⟩
instance : Zr Tryd.prog 186 (.agg #[.int .i32 0, .int .i32 0, .int .i32 0, .int .i32 0]) := ⟨by kernel_rfl⟩
instance : Zc Tryd.prog 186 [.int .i32 0, .int .i32 0, .int .i32 0, .int .i32 0] := ⟨⟨.agg #[.int .i32 0, .int .i32 0, .int .i32 0, .int .i32 0], by kernel_rfl, rfl⟩⟩
instance : Fi Tryd.prog 186 0 0 164 := ⟨⟨_, _, Tryd.underlying186, rfl, rfl, rfl⟩, ⟨1, by kernel_rfl, by decide⟩⟩
instance : Fi Tryd.prog 186 1 1 165 := ⟨⟨_, _, Tryd.underlying186, rfl, rfl, rfl⟩, ⟨1, by kernel_rfl, by decide⟩⟩
instance : Fi Tryd.prog 186 2 2 184 := ⟨⟨_, _, Tryd.underlying186, rfl, rfl, rfl⟩, ⟨1, by kernel_rfl, by decide⟩⟩
instance : Fi Tryd.prog 186 3 3 184 := ⟨⟨_, _, Tryd.underlying186, rfl, rfl, rfl⟩, ⟨1, by kernel_rfl, by decide⟩⟩
instance : Bd Tryd.prog 186 (fun i : Nat => ([(0, 1), (1, 1), (2, 1), (3, 1)] : List (Nat × Nat))[i]?) (Value.cells (.agg #[.int .i32 0, .int .i32 0, .int .i32 0, .int .i32 0])) := bd_struct Tryd.underlying186 (by kernel_rfl) (by kernel_rfl)
instance : Sc Tryd.prog 187 := ⟨by kernel_rfl, ⟨_, Tryd.underlying187, rfl⟩⟩
instance : Sz Tryd.prog 187 1 := ⟨by kernel_rfl⟩
instance : By Tryd.prog 187 8 := ⟨by kernel_rfl⟩
instance : Zr Tryd.prog 187 (.nilFunc) := ⟨by kernel_rfl⟩
instance : Zc Tryd.prog 187 [.nilFunc] := ⟨⟨.nilFunc, by kernel_rfl, rfl⟩⟩
instance : Mx Tryd.prog := ⟨by kernel_rfl⟩
instance : Fun Tryd.prog 3 := ⟨fun _ _ => by kernel_rfl⟩
instance : Fun Tryd.prog 4 := ⟨fun _ _ => by kernel_rfl⟩
instance : Fun Tryd.prog 5 := ⟨fun _ _ => by kernel_rfl⟩
instance : Fun Tryd.prog 6 := ⟨fun _ _ => by kernel_rfl⟩
instance : Fun Tryd.prog 7 := ⟨fun _ _ => by kernel_rfl⟩
instance : Fun Tryd.prog 8 := ⟨fun _ _ => by kernel_rfl⟩
instance : Fun Tryd.prog 9 := ⟨fun _ _ => by kernel_rfl⟩
instance : Fun Tryd.prog 10 := ⟨fun _ _ => by kernel_rfl⟩
instance : Fun Tryd.prog 11 := ⟨fun _ _ => by kernel_rfl⟩
instance : Fun Tryd.prog 12 := ⟨fun _ _ => by kernel_rfl⟩
instance : Fun Tryd.prog 13 := ⟨fun _ _ => by kernel_rfl⟩
instance : Fun Tryd.prog 14 := ⟨fun _ _ => by kernel_rfl⟩
instance : Fun Tryd.prog 15 := ⟨fun _ _ => by kernel_rfl⟩
instance : Fun Tryd.prog 16 := ⟨fun _ _ => by kernel_rfl⟩
instance : Fun Tryd.prog 17 := ⟨fun _ _ => by kernel_rfl⟩
instance : Fun Tryd.prog 18 := ⟨fun _ _ => by kernel_rfl⟩
instance : Fun Tryd.prog 19 := ⟨fun _ _ => by kernel_rfl⟩
instance : Fun Tryd.prog 20 := ⟨fun _ _ => by kernel_rfl⟩
instance : Fun Tryd.prog 21 := ⟨fun _ _ => by kernel_rfl⟩
instance : Fun Tryd.prog 22 := ⟨fun _ _ => by kernel_rfl⟩
instance : Fun Tryd.prog 23 := ⟨fun _ _ => by kernel_rfl⟩
instance : Fun Tryd.prog 24 := ⟨fun _ _ => by kernel_rfl⟩
instance : Fun Tryd.prog 25 := ⟨fun _ _ => by kernel_rfl⟩
instance : Fun Tryd.prog 26 := ⟨fun _ _ => by kernel_rfl⟩
instance : Fun Tryd.prog 27 := ⟨fun _ _ => by kernel_rfl⟩
instance : Fun Tryd.prog 28 := ⟨fun _ _ => by kernel_rfl⟩
instance : Fun Tryd.prog 29 := ⟨fun _ _ => by kernel_rfl⟩
instance : Fun Tryd.prog 30 := ⟨fun _ _ => by kernel_rfl⟩
instance : Fun Tryd.prog 31 := ⟨fun _ _ => by kernel_rfl⟩
instance : Fun Tryd.prog 32 := ⟨fun _ _ => by kernel_rfl⟩
instance : Fun Tryd.prog 33 := ⟨fun _ _ => by kernel_rfl⟩
instance : Fun Tryd.prog 34 := ⟨fun _ _ => by kernel_rfl⟩
instance : Fun Tryd.prog 35 := ⟨fun _ _ => by kernel_rfl⟩
instance : Fun Tryd.prog 36 := ⟨fun _ _ => by kernel_rfl⟩
instance : Fun Tryd.prog 37 := ⟨fun _ _ => by kernel_rfl⟩
instance : Fun Tryd.prog 38 := ⟨fun _ _ => by kernel_rfl⟩
instance : Fun Tryd.prog 39 := ⟨fun _ _ => by kernel_rfl⟩
instance : Fun Tryd.prog 40 := ⟨fun _ _ => by kernel_rfl⟩
instance : Fun Tryd.prog 41 := ⟨fun _ _ => by kernel_rfl⟩
instance : Fun Tryd.prog 42 := ⟨fun _ _ => by kernel_rfl⟩
instance : Fun Tryd.prog 43 := ⟨fun _ _ => by kernel_rfl⟩
instance : Fun Tryd.prog 44 := ⟨fun _ _ => by kernel_rfl⟩
instance : Fun Tryd.prog 45 := ⟨fun _ _ => by kernel_rfl⟩
instance : Fun Tryd.prog 46 := ⟨fun _ _ => by kernel_rfl⟩
instance : Fun Tryd.prog 47 := ⟨fun _ _ => by kernel_rfl⟩
instance : Fun Tryd.prog 48 := ⟨fun _ _ => by kernel_rfl⟩
instance : Fun Tryd.prog 49 := ⟨fun _ _ => by kernel_rfl⟩
instance : Fun Tryd.prog 50 := ⟨fun _ _ => by kernel_rfl⟩
instance : Fun Tryd.prog 51 := ⟨fun _ _ => by kernel_rfl⟩
instance : Fun Tryd.prog 52 := ⟨fun _ _ => by kernel_rfl⟩
instance : Fun Tryd.prog 53 := ⟨fun _ _ => by kernel_rfl⟩
instance : Fun Tryd.prog 54 := ⟨fun _ _ => by kernel_rfl⟩
instance : Fun Tryd.prog 56 := ⟨fun _ _ => by kernel_rfl⟩
instance : Fun Tryd.prog 57 := ⟨fun _ _ => by kernel_rfl⟩
instance : Fun Tryd.prog 58 := ⟨fun _ _ => by kernel_rfl⟩
instance : Fun Tryd.prog 59 := ⟨fun _ _ => by kernel_rfl⟩
instance : Fun Tryd.prog 60 := ⟨fun _ _ => by kernel_rfl⟩
instance : Fun Tryd.prog 61 := ⟨fun _ _ => by kernel_rfl⟩
instance : Fun Tryd.prog 62 := ⟨fun _ _ => by kernel_rfl⟩
instance : Fun Tryd.prog 64 := ⟨fun _ _ => by kernel_rfl⟩
instance : Fun Tryd.prog 65 := ⟨fun _ _ => by kernel_rfl⟩
instance : Fun Tryd.prog 66 := ⟨fun _ _ => by kernel_rfl⟩
instance : Fun Tryd.prog 67 := ⟨fun _ _ => by kernel_rfl⟩
instance : Fun Tryd.prog 68 := ⟨fun _ _ => by kernel_rfl⟩
instance : Fun Tryd.prog 69 := ⟨fun _ _ => by kernel_rfl⟩
instance : Fun Tryd.prog 70 := ⟨fun _ _ => by kernel_rfl⟩
instance : Fun Tryd.prog 71 := ⟨fun _ _ => by kernel_rfl⟩
instance : Fun Tryd.prog 72 := ⟨fun _ _ => by kernel_rfl⟩
instance : Fun Tryd.prog 73 := ⟨fun _ _ => by kernel_rfl⟩
instance : Fun Tryd.prog 74 := ⟨fun _ _ => by kernel_rfl⟩
instance : Fun Tryd.prog 75 := ⟨fun _ _ => by kernel_rfl⟩
instance : Fun Tryd.prog 76 := ⟨fun _ _ => by kernel_rfl⟩
instance : Fun Tryd.prog 78 := ⟨fun _ _ => by kernel_rfl⟩
instance : Fun Tryd.prog 79 := ⟨fun _ _ => by kernel_rfl⟩
instance : Fun Tryd.prog 80 := ⟨fun _ _ => by kernel_rfl⟩
instance : Fun Tryd.prog 81 := ⟨fun _ _ => by kernel_rfl⟩
instance : Fun Tryd.prog 82 := ⟨fun _ _ => by kernel_rfl⟩
instance : Fun Tryd.prog 83 := ⟨fun _ _ => by kernel_rfl⟩
instance : Fun Tryd.prog 84 := ⟨fun _ _ => by kernel_rfl⟩
instance : Fun Tryd.prog 85 := ⟨fun _ _ => by kernel_rfl⟩
instance : Fun Tryd.prog 86 := ⟨fun _ _ => by kernel_rfl⟩
instance : Fun Tryd.prog 87 := ⟨fun _ _ => by kernel_rfl⟩
instance : Fun Tryd.prog 89 := ⟨fun _ _ => by kernel_rfl⟩
instance : Fun Tryd.prog 122 := ⟨fun _ _ => by kernel_rfl⟩
instance : Fun Tryd.prog 129 := ⟨fun _ _ => by kernel_rfl⟩
end Go.Proofs.YtnlfohlngapkfaaDoor
