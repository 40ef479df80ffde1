/- Contracts of functions of this program, each proved by a walk through its code, and plain lemmas on what they compute; on no condition beyond those that each theorem states. -/
import Derived.Test.YtnlfohlngapkfaaGreatDoorRows
import Derived.Test.YtnlfohlngapkfaaGreatDoorXA
namespace Go.Proofs.YtnlfohlngapkfaaGreatDoor
open Go Go.X
set_option maxRecDepth 100000
set_option linter.unusedVariables false
instance : Sc Tryz.prog 1 := ⟨by kernel_rfl, ⟨_, Tryz.underlying1, rfl⟩⟩
instance : Sz Tryz.prog 1 1 := ⟨by kernel_rfl⟩
instance : By Tryz.prog 1 8 := ⟨by kernel_rfl⟩
instance : Zr Tryz.prog 1 (.nilFunc) := ⟨by kernel_rfl⟩
instance : Zc Tryz.prog 1 [.nilFunc] := ⟨⟨.nilFunc, by kernel_rfl, rfl⟩⟩
instance : Sc Tryz.prog 2 := ⟨by kernel_rfl, ⟨_, Tryz.underlying2, rfl⟩⟩
instance : Sz Tryz.prog 2 1 := ⟨by kernel_rfl⟩
instance : By Tryz.prog 2 8 := ⟨by kernel_rfl⟩
instance : Zr Tryz.prog 2 (.int .i64 0) := ⟨by kernel_rfl⟩
instance : Zc Tryz.prog 2 [.int .i64 0] := ⟨⟨.int .i64 0, by kernel_rfl, rfl⟩⟩
instance : Ity Tryz.prog 2 .i64 := ⟨Tryz.underlying2⟩
instance : Sc Tryz.prog 3 := ⟨by kernel_rfl, ⟨_, Tryz.underlying3, rfl⟩⟩
instance : Sz Tryz.prog 3 1 := ⟨by kernel_rfl⟩
instance : By Tryz.prog 3 8 := ⟨by kernel_rfl⟩
instance : Zr Tryz.prog 3 (.int .i64 0) := ⟨by kernel_rfl⟩
instance : Zc Tryz.prog 3 [.int .i64 0] := ⟨⟨.int .i64 0, by kernel_rfl, rfl⟩⟩
instance : Ity Tryz.prog 3 .i64 := ⟨Tryz.underlying3⟩
instance : Sc Tryz.prog 4 := ⟨by kernel_rfl, ⟨_, Tryz.underlying4, rfl⟩⟩
instance : Sz Tryz.prog 4 1 := ⟨by kernel_rfl⟩
instance : By Tryz.prog 4 1 := ⟨by kernel_rfl⟩
instance : Zr Tryz.prog 4 (.bool false) := ⟨by kernel_rfl⟩
instance : Zc Tryz.prog 4 [.bool false] := ⟨⟨.bool false, by kernel_rfl, rfl⟩⟩
instance : Boo Tryz.prog 4 := ⟨Tryz.underlying4⟩
instance : Sc Tryz.prog 5 := ⟨by kernel_rfl, ⟨_, Tryz.underlying5, rfl⟩⟩
instance : Sz Tryz.prog 5 1 := ⟨by kernel_rfl⟩
instance : By Tryz.prog 5 1 := ⟨by kernel_rfl⟩
instance : Zr Tryz.prog 5 (.int .u8 0) := ⟨by kernel_rfl⟩
instance : Zc Tryz.prog 5 [.int .u8 0] := ⟨⟨.int .u8 0, by kernel_rfl, rfl⟩⟩
instance : Ity Tryz.prog 5 .u8 := ⟨Tryz.underlying5⟩
instance : Sc Tryz.prog 6 := ⟨by kernel_rfl, ⟨_, Tryz.underlying6, rfl⟩⟩
instance : Sz Tryz.prog 6 1 := ⟨by kernel_rfl⟩
instance : By Tryz.prog 6 1 := ⟨by kernel_rfl⟩
instance : Zr Tryz.prog 6 (.int .u8 0) := ⟨by kernel_rfl⟩
instance : Zc Tryz.prog 6 [.int .u8 0] := ⟨⟨.int .u8 0, by kernel_rfl, rfl⟩⟩
instance : Ity Tryz.prog 6 .u8 := ⟨Tryz.underlying6⟩
instance : Ag Tryz.prog 7 4 := ⟨by kernel_rfl, ⟨_, Tryz.underlying7, rfl⟩⟩
instance : Sz Tryz.prog 7 4 := ⟨by kernel_rfl⟩
instance : By Tryz.prog 7 24 := ⟨by kernel_rfl⟩
instance : Zr Tryz.prog 7 (.agg #[.int .i64 0, .int .i64 0, .bool false, .int .u8 0]) := ⟨by kernel_rfl⟩
instance : Zc Tryz.prog 7 [.int .i64 0, .int .i64 0, .bool false, .int .u8 0] := ⟨⟨.agg #[.int .i64 0, .int .i64 0, .bool false, .int .u8 0], by kernel_rfl, rfl⟩⟩
instance : Fi Tryz.prog 7 0 0 2 := ⟨⟨_, _, Tryz.underlying7, rfl, rfl, rfl⟩, ⟨1, by kernel_rfl, by decide⟩⟩
instance : Fi Tryz.prog 7 1 1 3 := ⟨⟨_, _, Tryz.underlying7, rfl, rfl, rfl⟩, ⟨1, by kernel_rfl, by decide⟩⟩
instance : Fi Tryz.prog 7 2 2 4 := ⟨⟨_, _, Tryz.underlying7, rfl, rfl, rfl⟩, ⟨1, by kernel_rfl, by decide⟩⟩
instance : Fi Tryz.prog 7 3 3 6 := ⟨⟨_, _, Tryz.underlying7, rfl, rfl, rfl⟩, ⟨1, by kernel_rfl, by decide⟩⟩
instance : Bd Tryz.prog 7 (fun i : Nat => ([(0, 1), (1, 1), (2, 1), (3, 1)] : List (Nat × Nat))[i]?) (Value.cells (.agg #[.int .i64 0, .int .i64 0, .bool false, .int .u8 0])) := bd_struct Tryz.underlying7 (by kernel_rfl) (by kernel_rfl)
instance : Ag Tryz.prog 8 4 := ⟨by kernel_rfl, ⟨_, Tryz.underlying8, rfl⟩⟩
instance : Sz Tryz.prog 8 4 := ⟨by kernel_rfl⟩
instance : By Tryz.prog 8 24 := ⟨by kernel_rfl⟩
instance : Zr Tryz.prog 8 (.agg #[.int .i64 0, .int .i64 0, .bool false, .int .u8 0]) := ⟨by kernel_rfl⟩
instance : Zc Tryz.prog 8 [.int .i64 0, .int .i64 0, .bool false, .int .u8 0] := ⟨⟨.agg #[.int .i64 0, .int .i64 0, .bool false, .int .u8 0], by kernel_rfl, rfl⟩⟩
instance : Fi Tryz.prog 8 0 0 2 := ⟨⟨_, _, Tryz.underlying8, rfl, rfl, rfl⟩, ⟨1, by kernel_rfl, by decide⟩⟩
instance : Fi Tryz.prog 8 1 1 3 := ⟨⟨_, _, Tryz.underlying8, rfl, rfl, rfl⟩, ⟨1, by kernel_rfl, by decide⟩⟩
instance : Fi Tryz.prog 8 2 2 4 := ⟨⟨_, _, Tryz.underlying8, rfl, rfl, rfl⟩, ⟨1, by kernel_rfl, by decide⟩⟩
instance : Fi Tryz.prog 8 3 3 6 := ⟨⟨_, _, Tryz.underlying8, rfl, rfl, rfl⟩, ⟨1, by kernel_rfl, by decide⟩⟩
instance : Bd Tryz.prog 8 (fun i : Nat => ([(0, 1), (1, 1), (2, 1), (3, 1)] : List (Nat × Nat))[i]?) (Value.cells (.agg #[.int .i64 0, .int .i64 0, .bool false, .int .u8 0])) := bd_struct Tryz.underlying8 (by kernel_rfl) (by kernel_rfl)
instance : Sc Tryz.prog 9 := ⟨by kernel_rfl, ⟨_, Tryz.underlying9, rfl⟩⟩
instance : Sz Tryz.prog 9 1 := ⟨by kernel_rfl⟩
instance : By Tryz.prog 9 16 := ⟨by kernel_rfl⟩
instance : Zr Tryz.prog 9 (.string ByteArray.empty) := ⟨by kernel_rfl⟩
instance : Zc Tryz.prog 9 [.string ByteArray.empty] := ⟨⟨.string ByteArray.empty, by kernel_rfl, rfl⟩⟩
instance : Strg Tryz.prog 9 := ⟨Tryz.underlying9⟩
instance : Sc Tryz.prog 10 := ⟨by kernel_rfl, ⟨_, Tryz.underlying10, rfl⟩⟩
instance : Sz Tryz.prog 10 1 := ⟨by kernel_rfl⟩
instance : By Tryz.prog 10 16 := ⟨by kernel_rfl⟩
instance : Zr Tryz.prog 10 (.string ByteArray.empty) := ⟨by kernel_rfl⟩
instance : Zc Tryz.prog 10 [.string ByteArray.empty] := ⟨⟨.string ByteArray.empty, by kernel_rfl, rfl⟩⟩
instance : Strg Tryz.prog 10 := ⟨Tryz.underlying10⟩
instance : Sc Tryz.prog 11 := ⟨by kernel_rfl, ⟨_, Tryz.underlying11, rfl⟩⟩
instance : Sz Tryz.prog 11 1 := ⟨by kernel_rfl⟩
instance : By Tryz.prog 11 16 := ⟨by kernel_rfl⟩
instance : Zr Tryz.prog 11 (.string ByteArray.empty) := ⟨by kernel_rfl⟩
instance : Zc Tryz.prog 11 [.string ByteArray.empty] := ⟨⟨.string ByteArray.empty, by kernel_rfl, rfl⟩⟩
instance : Strg Tryz.prog 11 := ⟨Tryz.underlying11⟩
instance : Sc Tryz.prog 12 := ⟨by kernel_rfl, ⟨_, Tryz.underlying12, rfl⟩⟩
instance : Sz Tryz.prog 12 1 := ⟨by kernel_rfl⟩
instance : By Tryz.prog 12 8 := ⟨by kernel_rfl⟩
instance : Zr Tryz.prog 12 (.int .u64 0) := ⟨by kernel_rfl⟩
instance : Zc Tryz.prog 12 [.int .u64 0] := ⟨⟨.int .u64 0, by kernel_rfl, rfl⟩⟩
instance : Ity Tryz.prog 12 .u64 := ⟨Tryz.underlying12⟩
instance : Ag Tryz.prog 13 2 := ⟨by kernel_rfl, ⟨_, Tryz.underlying13, rfl⟩⟩
instance : Sz Tryz.prog 13 2 := ⟨by kernel_rfl⟩
instance : By Tryz.prog 13 24 := ⟨by kernel_rfl⟩
instance : Zr Tryz.prog 13 (.agg #[.string ByteArray.empty, .int .u64 0]) := ⟨by kernel_rfl⟩
instance : Zc Tryz.prog 13 [.string ByteArray.empty, .int .u64 0] := ⟨⟨.agg #[.string ByteArray.empty, .int .u64 0], by kernel_rfl, rfl⟩⟩
instance : Fi Tryz.prog 13 0 0 9 := ⟨⟨_, _, Tryz.underlying13, rfl, rfl, rfl⟩, ⟨1, by kernel_rfl, by decide⟩⟩
instance : Fi Tryz.prog 13 1 1 12 := ⟨⟨_, _, Tryz.underlying13, rfl, rfl, rfl⟩, ⟨1, by kernel_rfl, by decide⟩⟩
instance : Bd Tryz.prog 13 (fun i : Nat => ([(0, 1), (1, 1)] : List (Nat × Nat))[i]?) (Value.cells (.agg #[.string ByteArray.empty, .int .u64 0])) := bd_struct Tryz.underlying13 (by kernel_rfl) (by kernel_rfl)
instance : Ag Tryz.prog 14 2 := ⟨by kernel_rfl, ⟨_, Tryz.underlying14, rfl⟩⟩
instance : Sz Tryz.prog 14 2 := ⟨by kernel_rfl⟩
instance : By Tryz.prog 14 24 := ⟨by kernel_rfl⟩
instance : Zr Tryz.prog 14 (.agg #[.string ByteArray.empty, .int .u64 0]) := ⟨by kernel_rfl⟩
instance : Zc Tryz.prog 14 [.string ByteArray.empty, .int .u64 0] := ⟨⟨.agg #[.string ByteArray.empty, .int .u64 0], by kernel_rfl, rfl⟩⟩
instance : Fi Tryz.prog 14 0 0 9 := ⟨⟨_, _, Tryz.underlying14, rfl, rfl, rfl⟩, ⟨1, by kernel_rfl, by decide⟩⟩
instance : Fi Tryz.prog 14 1 1 12 := ⟨⟨_, _, Tryz.underlying14, rfl, rfl, rfl⟩, ⟨1, by kernel_rfl, by decide⟩⟩
instance : Bd Tryz.prog 14 (fun i : Nat => ([(0, 1), (1, 1)] : List (Nat × Nat))[i]?) (Value.cells (.agg #[.string ByteArray.empty, .int .u64 0])) := bd_struct Tryz.underlying14 (by kernel_rfl) (by kernel_rfl)
instance : Sc Tryz.prog 15 := ⟨by kernel_rfl, ⟨_, Tryz.underlying15, rfl⟩⟩
instance : Sz Tryz.prog 15 1 := ⟨by kernel_rfl⟩
instance : By Tryz.prog 15 8 := ⟨by kernel_rfl⟩
instance : Zr Tryz.prog 15 (.pointer none) := ⟨by kernel_rfl⟩
instance : Zc Tryz.prog 15 [.pointer none] := ⟨⟨.pointer none, by kernel_rfl, rfl⟩⟩
instance : Sc Tryz.prog 16 := ⟨by kernel_rfl, ⟨_, Tryz.underlying16, rfl⟩⟩
instance : Sz Tryz.prog 16 1 := ⟨by kernel_rfl⟩
instance : By Tryz.prog 16 8 := ⟨by kernel_rfl⟩
instance : Zr Tryz.prog 16 (.pointer none) := ⟨by kernel_rfl⟩
instance : Zc Tryz.prog 16 [.pointer none] := ⟨⟨.pointer none, by kernel_rfl, rfl⟩⟩
instance : Sc Tryz.prog 17 := ⟨by kernel_rfl, ⟨_, Tryz.underlying17, rfl⟩⟩
instance : Sz Tryz.prog 17 1 := ⟨by kernel_rfl⟩
instance : By Tryz.prog 17 8 := ⟨by kernel_rfl⟩
instance : Zr Tryz.prog 17 (.pointer none) := ⟨by kernel_rfl⟩
instance : Zc Tryz.prog 17 [.pointer none] := ⟨⟨.pointer none, by kernel_rfl, rfl⟩⟩
instance : Ag Tryz.prog 18 1 := ⟨by kernel_rfl, ⟨_, Tryz.underlying18, rfl⟩⟩
instance : Sz Tryz.prog 18 1 := ⟨by kernel_rfl⟩
instance : By Tryz.prog 18 8 := ⟨by kernel_rfl⟩
instance : Zr Tryz.prog 18 (.agg #[.pointer none]) := ⟨by kernel_rfl⟩
instance : Zc Tryz.prog 18 [.pointer none] := ⟨⟨.agg #[.pointer none], by kernel_rfl, rfl⟩⟩
instance : Fi Tryz.prog 18 0 0 17 := ⟨⟨_, _, Tryz.underlying18, rfl, rfl, rfl⟩, ⟨1, by kernel_rfl, by decide⟩⟩
instance : Bd Tryz.prog 18 (fun i : Nat => ([(0, 1)] : List (Nat × Nat))[i]?) (Value.cells (.agg #[.pointer none])) := bd_struct Tryz.underlying18 (by kernel_rfl) (by kernel_rfl)
instance : Ag Tryz.prog 19 1 := ⟨by kernel_rfl, ⟨_, Tryz.underlying19, rfl⟩⟩
instance : Sz Tryz.prog 19 1 := ⟨by kernel_rfl⟩
instance : By Tryz.prog 19 8 := ⟨by kernel_rfl⟩
instance : Zr Tryz.prog 19 (.agg #[.pointer none]) := ⟨by kernel_rfl⟩
instance : Zc Tryz.prog 19 [.pointer none] := ⟨⟨.agg #[.pointer none], by kernel_rfl, rfl⟩⟩
instance : Fi Tryz.prog 19 0 0 17 := ⟨⟨_, _, Tryz.underlying19, rfl, rfl, rfl⟩, ⟨1, by kernel_rfl, by decide⟩⟩
instance : Bd Tryz.prog 19 (fun i : Nat => ([(0, 1)] : List (Nat × Nat))[i]?) (Value.cells (.agg #[.pointer none])) := bd_struct Tryz.underlying19 (by kernel_rfl) (by kernel_rfl)
instance : Sc Tryz.prog 20 := ⟨by kernel_rfl, ⟨_, Tryz.underlying20, rfl⟩⟩
instance : Sz Tryz.prog 20 1 := ⟨by kernel_rfl⟩
instance : By Tryz.prog 20 16 := ⟨by kernel_rfl⟩
instance : Zr Tryz.prog 20 (.nilIface) := ⟨by kernel_rfl⟩
instance : Zc Tryz.prog 20 [.nilIface] := ⟨⟨.nilIface, by kernel_rfl, rfl⟩⟩
instance : Sc Tryz.prog 21 := ⟨by kernel_rfl, ⟨_, Tryz.underlying21, rfl⟩⟩
instance : Sz Tryz.prog 21 1 := ⟨by kernel_rfl⟩
instance : By Tryz.prog 21 4 := ⟨by kernel_rfl⟩
instance : Zr Tryz.prog 21 (.int .i32 0) := ⟨by kernel_rfl⟩
instance : Zc Tryz.prog 21 [.int .i32 0] := ⟨⟨.int .i32 0, by kernel_rfl, rfl⟩⟩
instance : Ity Tryz.prog 21 .i32 := ⟨Tryz.underlying21⟩
instance : Sc Tryz.prog 22 := ⟨by kernel_rfl, ⟨_, Tryz.underlying22, rfl⟩⟩
instance : Sz Tryz.prog 22 1 := ⟨by kernel_rfl⟩
instance : By Tryz.prog 22 24 := ⟨by kernel_rfl⟩
instance : Zr Tryz.prog 22 (.slice none 0 0) := ⟨by kernel_rfl⟩
instance : Zc Tryz.prog 22 [.slice none 0 0] := ⟨⟨.slice none 0 0, by kernel_rfl, rfl⟩⟩
instance : Sli Tryz.prog 22 9 := ⟨Tryz.underlying22⟩
instance : Sc Tryz.prog 23 := ⟨by kernel_rfl, ⟨_, Tryz.underlying23, rfl⟩⟩
instance : Sz Tryz.prog 23 1 := ⟨by kernel_rfl⟩
instance : By Tryz.prog 23 8 := ⟨by kernel_rfl⟩
instance : Zr Tryz.prog 23 (.nilFunc) := ⟨by kernel_rfl⟩
instance : Zc Tryz.prog 23 [.nilFunc] := ⟨⟨.nilFunc, by kernel_rfl, rfl⟩⟩
instance : Sc Tryz.prog 24 := ⟨by kernel_rfl, ⟨_, Tryz.underlying24, rfl⟩⟩
instance : Sz Tryz.prog 24 1 := ⟨by kernel_rfl⟩
instance : By Tryz.prog 24 8 := ⟨by kernel_rfl⟩
instance : Zr Tryz.prog 24 (.pointer none) := ⟨by kernel_rfl⟩
instance : Zc Tryz.prog 24 [.pointer none] := ⟨⟨.pointer none, by kernel_rfl, rfl⟩⟩
instance : Sc Tryz.prog 26 := ⟨by kernel_rfl, ⟨_, Tryz.underlying26, rfl⟩⟩
instance : Sz Tryz.prog 26 1 := ⟨by kernel_rfl⟩
instance : By Tryz.prog 26 8 := ⟨by kernel_rfl⟩
instance : Zr Tryz.prog 26 (.nilFunc) := ⟨by kernel_rfl⟩
instance : Zc Tryz.prog 26 [.nilFunc] := ⟨⟨.nilFunc, by kernel_rfl, rfl⟩⟩
instance : Sc Tryz.prog 27 := ⟨by kernel_rfl, ⟨_, Tryz.underlying27, rfl⟩⟩
instance : Sz Tryz.prog 27 1 := ⟨by kernel_rfl⟩
instance : By Tryz.prog 27 8 := ⟨by kernel_rfl⟩
instance : Zr Tryz.prog 27 (.pointer none) := ⟨by kernel_rfl⟩
instance : Zc Tryz.prog 27 [.pointer none] := ⟨⟨.pointer none, by kernel_rfl, rfl⟩⟩
instance : Sc Tryz.prog 28 := ⟨by kernel_rfl, ⟨_, Tryz.underlying28, rfl⟩⟩
instance : Sz Tryz.prog 28 1 := ⟨by kernel_rfl⟩
instance : By Tryz.prog 28 8 := ⟨by kernel_rfl⟩
instance : Zr Tryz.prog 28 (.pointer none) := ⟨by kernel_rfl⟩
instance : Zc Tryz.prog 28 [.pointer none] := ⟨⟨.pointer none, by kernel_rfl, rfl⟩⟩
instance : Sc Tryz.prog 29 := ⟨by kernel_rfl, ⟨_, Tryz.underlying29, rfl⟩⟩
instance : Sz Tryz.prog 29 1 := ⟨by kernel_rfl⟩
instance : By Tryz.prog 29 8 := ⟨by kernel_rfl⟩
instance : Zr Tryz.prog 29 (.pointer none) := ⟨by kernel_rfl⟩
instance : Zc Tryz.prog 29 [.pointer none] := ⟨⟨.pointer none, by kernel_rfl, rfl⟩⟩
instance : Sc Tryz.prog 30 := ⟨by kernel_rfl, ⟨_, Tryz.underlying30, rfl⟩⟩
instance : Sz Tryz.prog 30 1 := ⟨by kernel_rfl⟩
instance : By Tryz.prog 30 8 := ⟨by kernel_rfl⟩
instance : Zr Tryz.prog 30 (.pointer none) := ⟨by kernel_rfl⟩
instance : Zc Tryz.prog 30 [.pointer none] := ⟨⟨.pointer none, by kernel_rfl, rfl⟩⟩
instance : Ag Tryz.prog 31 4 := ⟨by kernel_rfl, ⟨_, Tryz.underlying31, rfl⟩⟩
instance : Sz Tryz.prog 31 4 := ⟨by kernel_rfl⟩
instance : By Tryz.prog 31 32 := ⟨by kernel_rfl⟩
instance : Zr Tryz.prog 31 (.agg #[.pointer none, .pointer none, .pointer none, .pointer none]) := ⟨by kernel_rfl⟩
instance : Zc Tryz.prog 31 [.pointer none, .pointer none, .pointer none, .pointer none] := ⟨⟨.agg #[.pointer none, .pointer none, .pointer none, .pointer none], by kernel_rfl, rfl⟩⟩
instance : Fi Tryz.prog 31 0 0 27 := ⟨⟨_, _, Tryz.underlying31, rfl, rfl, rfl⟩, ⟨1, by kernel_rfl, by decide⟩⟩
instance : Fi Tryz.prog 31 1 1 28 := ⟨⟨_, _, Tryz.underlying31, rfl, rfl, rfl⟩, ⟨1, by kernel_rfl, by decide⟩⟩
instance : Fi Tryz.prog 31 2 2 29 := ⟨⟨_, _, Tryz.underlying31, rfl, rfl, rfl⟩, ⟨1, by kernel_rfl, by decide⟩⟩
instance : Fi Tryz.prog 31 3 3 30 := ⟨⟨_, _, Tryz.underlying31, rfl, rfl, rfl⟩, ⟨1, by kernel_rfl, by decide⟩⟩
instance : Bd Tryz.prog 31 (fun i : Nat => ([(0, 1), (1, 1), (2, 1), (3, 1)] : List (Nat × Nat))[i]?) (Value.cells (.agg #[.pointer none, .pointer none, .pointer none, .pointer none])) := bd_struct Tryz.underlying31 (by kernel_rfl) (by kernel_rfl)
instance : Ag Tryz.prog 32 4 := ⟨by kernel_rfl, ⟨_, Tryz.underlying32, rfl⟩⟩
instance : Sz Tryz.prog 32 4 := ⟨by kernel_rfl⟩
instance : By Tryz.prog 32 32 := ⟨by kernel_rfl⟩
instance : Zr Tryz.prog 32 (.agg #[.pointer none, .pointer none, .pointer none, .pointer none]) := ⟨by kernel_rfl⟩
instance : Zc Tryz.prog 32 [.pointer none, .pointer none, .pointer none, .pointer none] := ⟨⟨.agg #[.pointer none, .pointer none, .pointer none, .pointer none], by kernel_rfl, rfl⟩⟩
instance : Fi Tryz.prog 32 0 0 27 := ⟨⟨_, _, Tryz.underlying32, rfl, rfl, rfl⟩, ⟨1, by kernel_rfl, by decide⟩⟩
instance : Fi Tryz.prog 32 1 1 28 := ⟨⟨_, _, Tryz.underlying32, rfl, rfl, rfl⟩, ⟨1, by kernel_rfl, by decide⟩⟩
instance : Fi Tryz.prog 32 2 2 29 := ⟨⟨_, _, Tryz.underlying32, rfl, rfl, rfl⟩, ⟨1, by kernel_rfl, by decide⟩⟩
instance : Fi Tryz.prog 32 3 3 30 := ⟨⟨_, _, Tryz.underlying32, rfl, rfl, rfl⟩, ⟨1, by kernel_rfl, by decide⟩⟩
instance : Bd Tryz.prog 32 (fun i : Nat => ([(0, 1), (1, 1), (2, 1), (3, 1)] : List (Nat × Nat))[i]?) (Value.cells (.agg #[.pointer none, .pointer none, .pointer none, .pointer none])) := bd_struct Tryz.underlying32 (by kernel_rfl) (by kernel_rfl)
instance : Sc Tryz.prog 33 := ⟨by kernel_rfl, ⟨_, Tryz.underlying33, rfl⟩⟩
instance : Sz Tryz.prog 33 1 := ⟨by kernel_rfl⟩
instance : By Tryz.prog 33 8 := ⟨by kernel_rfl⟩
instance : Zr Tryz.prog 33 (.int .i64 0) := ⟨by kernel_rfl⟩
instance : Zc Tryz.prog 33 [.int .i64 0] := ⟨⟨.int .i64 0, by kernel_rfl, rfl⟩⟩
instance : Ity Tryz.prog 33 .i64 := ⟨Tryz.underlying33⟩
instance : Sc Tryz.prog 34 := ⟨by kernel_rfl, ⟨_, Tryz.underlying34, rfl⟩⟩
instance : Sz Tryz.prog 34 1 := ⟨by kernel_rfl⟩
instance : By Tryz.prog 34 8 := ⟨by kernel_rfl⟩
instance : Zr Tryz.prog 34 (.nilFunc) := ⟨by kernel_rfl⟩
instance : Zc Tryz.prog 34 [.nilFunc] := ⟨⟨.nilFunc, by kernel_rfl, rfl⟩⟩
instance : Sc Tryz.prog 35 := ⟨by kernel_rfl, ⟨_, Tryz.underlying35, rfl⟩⟩
instance : Sz Tryz.prog 35 1 := ⟨by kernel_rfl⟩
instance : By Tryz.prog 35 8 := ⟨by kernel_rfl⟩
instance : Zr Tryz.prog 35 (.nilFunc) := ⟨by kernel_rfl⟩
instance : Zc Tryz.prog 35 [.nilFunc] := ⟨⟨.nilFunc, by kernel_rfl, rfl⟩⟩
instance : Sc Tryz.prog 36 := ⟨by kernel_rfl, ⟨_, Tryz.underlying36, rfl⟩⟩
instance : Sz Tryz.prog 36 1 := ⟨by kernel_rfl⟩
instance : By Tryz.prog 36 8 := ⟨by kernel_rfl⟩
instance : Zr Tryz.prog 36 (.nilFunc) := ⟨by kernel_rfl⟩
instance : Zc Tryz.prog 36 [.nilFunc] := ⟨⟨.nilFunc, by kernel_rfl, rfl⟩⟩
instance : Sc Tryz.prog 37 := ⟨by kernel_rfl, ⟨_, Tryz.underlying37, rfl⟩⟩
instance : Sz Tryz.prog 37 1 := ⟨by kernel_rfl⟩
instance : By Tryz.prog 37 8 := ⟨by kernel_rfl⟩
instance : Zr Tryz.prog 37 (.nilFunc) := ⟨by kernel_rfl⟩
instance : Zc Tryz.prog 37 [.nilFunc] := ⟨⟨.nilFunc, by kernel_rfl, rfl⟩⟩
instance : Sc Tryz.prog 38 := ⟨by kernel_rfl, ⟨_, Tryz.underlying38, rfl⟩⟩
instance : Sz Tryz.prog 38 1 := ⟨by kernel_rfl⟩
instance : By Tryz.prog 38 8 := ⟨by kernel_rfl⟩
instance : Zr Tryz.prog 38 (.nilFunc) := ⟨by kernel_rfl⟩
instance : Zc Tryz.prog 38 [.nilFunc] := ⟨⟨.nilFunc, by kernel_rfl, rfl⟩⟩
instance : Sc Tryz.prog 39 := ⟨by kernel_rfl, ⟨_, Tryz.underlying39, rfl⟩⟩
instance : Sz Tryz.prog 39 1 := ⟨by kernel_rfl⟩
instance : By Tryz.prog 39 24 := ⟨by kernel_rfl⟩
instance : Zr Tryz.prog 39 (.slice none 0 0) := ⟨by kernel_rfl⟩
instance : Zc Tryz.prog 39 [.slice none 0 0] := ⟨⟨.slice none 0 0, by kernel_rfl, rfl⟩⟩
instance : Sli Tryz.prog 39 5 := ⟨Tryz.underlying39⟩
instance : Sc Tryz.prog 40 := ⟨by kernel_rfl, ⟨_, Tryz.underlying40, rfl⟩⟩
instance : Sz Tryz.prog 40 1 := ⟨by kernel_rfl⟩
instance : By Tryz.prog 40 8 := ⟨by kernel_rfl⟩
instance : Zr Tryz.prog 40 (.nilFunc) := ⟨by kernel_rfl⟩
instance : Zc Tryz.prog 40 [.nilFunc] := ⟨⟨.nilFunc, by kernel_rfl, rfl⟩⟩
instance : Sc Tryz.prog 41 := ⟨by kernel_rfl, ⟨_, Tryz.underlying41, rfl⟩⟩
instance : Sz Tryz.prog 41 1 := ⟨by kernel_rfl⟩
instance : By Tryz.prog 41 8 := ⟨by kernel_rfl⟩
instance : Zr Tryz.prog 41 (.nilFunc) := ⟨by kernel_rfl⟩
instance : Zc Tryz.prog 41 [.nilFunc] := ⟨⟨.nilFunc, by kernel_rfl, rfl⟩⟩
instance : Ag Tryz.prog 42 4 := ⟨by kernel_rfl, ⟨_, Tryz.underlying42, rfl⟩⟩
instance : Sz Tryz.prog 42 4 := ⟨by kernel_rfl⟩
instance : By Tryz.prog 42 48 := ⟨by kernel_rfl⟩
instance : Zr Tryz.prog 42 (.agg #[.pointer none, .slice none 0 0, .int .i64 0, .bool false]) := ⟨by kernel_rfl⟩
instance : Zc Tryz.prog 42 [.pointer none, .slice none 0 0, .int .i64 0, .bool false] := ⟨⟨.agg #[.pointer none, .slice none 0 0, .int .i64 0, .bool false], by kernel_rfl, rfl⟩⟩
instance : Fi Tryz.prog 42 0 0 29 := ⟨⟨_, _, Tryz.underlying42, rfl, rfl, rfl⟩, ⟨1, by kernel_rfl, by decide⟩⟩
instance : Fi Tryz.prog 42 1 1 22 := ⟨⟨_, _, Tryz.underlying42, rfl, rfl, rfl⟩, ⟨1, by kernel_rfl, by decide⟩⟩
instance : Fi Tryz.prog 42 2 2 3 := ⟨⟨_, _, Tryz.underlying42, rfl, rfl, rfl⟩, ⟨1, by kernel_rfl, by decide⟩⟩
instance : Fi Tryz.prog 42 3 3 4 := ⟨⟨_, _, Tryz.underlying42, rfl, rfl, rfl⟩, ⟨1, by kernel_rfl, by decide⟩⟩
instance : Bd Tryz.prog 42 (fun i : Nat => ([(0, 1), (1, 1), (2, 1), (3, 1)] : List (Nat × Nat))[i]?) (Value.cells (.agg #[.pointer none, .slice none 0 0, .int .i64 0, .bool false])) := bd_struct Tryz.underlying42 (by kernel_rfl) (by kernel_rfl)
instance : Ag Tryz.prog 43 4 := ⟨by kernel_rfl, ⟨_, Tryz.underlying43, rfl⟩⟩
instance : Sz Tryz.prog 43 4 := ⟨by kernel_rfl⟩
instance : By Tryz.prog 43 48 := ⟨by kernel_rfl⟩
instance : Zr Tryz.prog 43 (.agg #[.pointer none, .slice none 0 0, .int .i64 0, .bool false]) := ⟨by kernel_rfl⟩
instance : Zc Tryz.prog 43 [.pointer none, .slice none 0 0, .int .i64 0, .bool false] := ⟨⟨.agg #[.pointer none, .slice none 0 0, .int .i64 0, .bool false], by kernel_rfl, rfl⟩⟩
instance : Fi Tryz.prog 43 0 0 29 := ⟨⟨_, _, Tryz.underlying43, rfl, rfl, rfl⟩, ⟨1, by kernel_rfl, by decide⟩⟩
instance : Fi Tryz.prog 43 1 1 22 := ⟨⟨_, _, Tryz.underlying43, rfl, rfl, rfl⟩, ⟨1, by kernel_rfl, by decide⟩⟩
instance : Fi Tryz.prog 43 2 2 3 := ⟨⟨_, _, Tryz.underlying43, rfl, rfl, rfl⟩, ⟨1, by kernel_rfl, by decide⟩⟩
instance : Fi Tryz.prog 43 3 3 4 := ⟨⟨_, _, Tryz.underlying43, rfl, rfl, rfl⟩, ⟨1, by kernel_rfl, by decide⟩⟩
instance : Bd Tryz.prog 43 (fun i : Nat => ([(0, 1), (1, 1), (2, 1), (3, 1)] : List (Nat × Nat))[i]?) (Value.cells (.agg #[.pointer none, .slice none 0 0, .int .i64 0, .bool false])) := bd_struct Tryz.underlying43 (by kernel_rfl) (by kernel_rfl)
instance : Sc Tryz.prog 44 := ⟨by kernel_rfl, ⟨_, Tryz.underlying44, rfl⟩⟩
instance : Sz Tryz.prog 44 1 := ⟨by kernel_rfl⟩
instance : By Tryz.prog 44 8 := ⟨by kernel_rfl⟩
instance : Zr Tryz.prog 44 (.nilFunc) := ⟨by kernel_rfl⟩
instance : Zc Tryz.prog 44 [.nilFunc] := ⟨⟨.nilFunc, by kernel_rfl, rfl⟩⟩
instance : Sc Tryz.prog 45 := ⟨by kernel_rfl, ⟨_, Tryz.underlying45, rfl⟩⟩
instance : Sz Tryz.prog 45 1 := ⟨by kernel_rfl⟩
instance : By Tryz.prog 45 8 := ⟨by kernel_rfl⟩
instance : Zr Tryz.prog 45 (.nilFunc) := ⟨by kernel_rfl⟩
instance : Zc Tryz.prog 45 [.nilFunc] := ⟨⟨.nilFunc, by kernel_rfl, rfl⟩⟩
instance : Sc Tryz.prog 46 := ⟨by kernel_rfl, ⟨_, Tryz.underlying46, rfl⟩⟩
instance : Sz Tryz.prog 46 1 := ⟨by kernel_rfl⟩
instance : By Tryz.prog 46 8 := ⟨by kernel_rfl⟩
instance : Zr Tryz.prog 46 (.nilFunc) := ⟨by kernel_rfl⟩
instance : Zc Tryz.prog 46 [.nilFunc] := ⟨⟨.nilFunc, by kernel_rfl, rfl⟩⟩
instance : Sc Tryz.prog 47 := ⟨by kernel_rfl, ⟨_, Tryz.underlying47, rfl⟩⟩
instance : Sz Tryz.prog 47 1 := ⟨by kernel_rfl⟩
instance : By Tryz.prog 47 8 := ⟨by kernel_rfl⟩
instance : Zr Tryz.prog 47 (.nilFunc) := ⟨by kernel_rfl⟩
instance : Zc Tryz.prog 47 [.nilFunc] := ⟨⟨.nilFunc, by kernel_rfl, rfl⟩⟩
instance : Sc Tryz.prog 48 := ⟨by kernel_rfl, ⟨_, Tryz.underlying48, rfl⟩⟩
instance : Sz Tryz.prog 48 1 := ⟨by kernel_rfl⟩
instance : By Tryz.prog 48 24 := ⟨by kernel_rfl⟩
instance : Zr Tryz.prog 48 (.slice none 0 0) := ⟨by kernel_rfl⟩
instance : Zc Tryz.prog 48 [.slice none 0 0] := ⟨⟨.slice none 0 0, by kernel_rfl, rfl⟩⟩
instance : Sli Tryz.prog 48 22 := ⟨Tryz.underlying48⟩
instance : Sc Tryz.prog 50 := ⟨by kernel_rfl, ⟨_, Tryz.underlying50, rfl⟩⟩
instance : Sz Tryz.prog 50 1 := ⟨by kernel_rfl⟩
instance : By Tryz.prog 50 8 := ⟨by kernel_rfl⟩
instance : Zr Tryz.prog 50 (.nilFunc) := ⟨by kernel_rfl⟩
instance : Zc Tryz.prog 50 [.nilFunc] := ⟨⟨.nilFunc, by kernel_rfl, rfl⟩⟩
instance : Sc Tryz.prog 52 := ⟨by kernel_rfl, ⟨_, Tryz.underlying52, rfl⟩⟩
instance : Sz Tryz.prog 52 1 := ⟨by kernel_rfl⟩
instance : By Tryz.prog 52 8 := ⟨by kernel_rfl⟩
instance : Zr Tryz.prog 52 (.nilFunc) := ⟨by kernel_rfl⟩
instance : Zc Tryz.prog 52 [.nilFunc] := ⟨⟨.nilFunc, by kernel_rfl, rfl⟩⟩
instance : Sc Tryz.prog 53 := ⟨by kernel_rfl, ⟨_, Tryz.underlying53, rfl⟩⟩
instance : Sz Tryz.prog 53 1 := ⟨by kernel_rfl⟩
instance : By Tryz.prog 53 8 := ⟨by kernel_rfl⟩
instance : Zr Tryz.prog 53 (.nilFunc) := ⟨by kernel_rfl⟩
instance : Zc Tryz.prog 53 [.nilFunc] := ⟨⟨.nilFunc, by kernel_rfl, rfl⟩⟩
instance : Sc Tryz.prog 54 := ⟨by kernel_rfl, ⟨_, Tryz.underlying54, rfl⟩⟩
instance : Sz Tryz.prog 54 1 := ⟨by kernel_rfl⟩
instance : By Tryz.prog 54 8 := ⟨by kernel_rfl⟩
instance : Zr Tryz.prog 54 (.nilFunc) := ⟨by kernel_rfl⟩
instance : Zc Tryz.prog 54 [.nilFunc] := ⟨⟨.nilFunc, by kernel_rfl, rfl⟩⟩
instance : Sc Tryz.prog 55 := ⟨by kernel_rfl, ⟨_, Tryz.underlying55, rfl⟩⟩
instance : Sz Tryz.prog 55 1 := ⟨by kernel_rfl⟩
instance : By Tryz.prog 55 8 := ⟨by kernel_rfl⟩
instance : Zr Tryz.prog 55 (.nilFunc) := ⟨by kernel_rfl⟩
instance : Zc Tryz.prog 55 [.nilFunc] := ⟨⟨.nilFunc, by kernel_rfl, rfl⟩⟩
instance : Sc Tryz.prog 56 := ⟨by kernel_rfl, ⟨_, Tryz.underlying56, rfl⟩⟩
instance : Sz Tryz.prog 56 1 := ⟨by kernel_rfl⟩
instance : By Tryz.prog 56 24 := ⟨by kernel_rfl⟩
instance : Zr Tryz.prog 56 (.slice none 0 0) := ⟨by kernel_rfl⟩
instance : Zc Tryz.prog 56 [.slice none 0 0] := ⟨⟨.slice none 0 0, by kernel_rfl, rfl⟩⟩
instance : Sli Tryz.prog 56 3 := ⟨Tryz.underlying56⟩
instance : Sc Tryz.prog 57 := ⟨by kernel_rfl, ⟨_, Tryz.underlying57, rfl⟩⟩
instance : Sz Tryz.prog 57 1 := ⟨by kernel_rfl⟩
instance : By Tryz.prog 57 8 := ⟨by kernel_rfl⟩
instance : Zr Tryz.prog 57 (.nilFunc) := ⟨by kernel_rfl⟩
instance : Zc Tryz.prog 57 [.nilFunc] := ⟨⟨.nilFunc, by kernel_rfl, rfl⟩⟩
instance : Sc Tryz.prog 58 := ⟨by kernel_rfl, ⟨_, Tryz.underlying58, rfl⟩⟩
instance : Sz Tryz.prog 58 1 := ⟨by kernel_rfl⟩
instance : By Tryz.prog 58 8 := ⟨by kernel_rfl⟩
instance : Zr Tryz.prog 58 (.nilFunc) := ⟨by kernel_rfl⟩
instance : Zc Tryz.prog 58 [.nilFunc] := ⟨⟨.nilFunc, by kernel_rfl, rfl⟩⟩
instance : Sc Tryz.prog 59 := ⟨by kernel_rfl, ⟨_, Tryz.underlying59, rfl⟩⟩
instance : Sz Tryz.prog 59 1 := ⟨by kernel_rfl⟩
instance : By Tryz.prog 59 8 := ⟨by kernel_rfl⟩
instance : Zr Tryz.prog 59 (.nilFunc) := ⟨by kernel_rfl⟩
instance : Zc Tryz.prog 59 [.nilFunc] := ⟨⟨.nilFunc, by kernel_rfl, rfl⟩⟩
instance : Sc Tryz.prog 60 := ⟨by kernel_rfl, ⟨_, Tryz.underlying60, rfl⟩⟩
instance : Sz Tryz.prog 60 1 := ⟨by kernel_rfl⟩
instance : By Tryz.prog 60 24 := ⟨by kernel_rfl⟩
instance : Zr Tryz.prog 60 (.slice none 0 0) := ⟨by kernel_rfl⟩
instance : Zc Tryz.prog 60 [.slice none 0 0] := ⟨⟨.slice none 0 0, by kernel_rfl, rfl⟩⟩
instance : Sli Tryz.prog 60 62 := ⟨Tryz.underlying60⟩
instance : Ag Tryz.prog 61 4 := ⟨by kernel_rfl, ⟨_, Tryz.underlying61, rfl⟩⟩
instance : Sz Tryz.prog 61 4 := ⟨by kernel_rfl⟩
instance : By Tryz.prog 61 64 := ⟨by kernel_rfl⟩
instance : Zr Tryz.prog 61 (.agg #[.int .i64 0, .slice none 0 0, .int .i64 0, .slice none 0 0]) := ⟨by kernel_rfl⟩
instance : Zc Tryz.prog 61 [.int .i64 0, .slice none 0 0, .int .i64 0, .slice none 0 0] := ⟨⟨.agg #[.int .i64 0, .slice none 0 0, .int .i64 0, .slice none 0 0], by kernel_rfl, rfl⟩⟩
instance : Fi Tryz.prog 61 0 0 3 := ⟨⟨_, _, Tryz.underlying61, rfl, rfl, rfl⟩, ⟨1, by kernel_rfl, by decide⟩⟩
instance : Fi Tryz.prog 61 1 1 22 := ⟨⟨_, _, Tryz.underlying61, rfl, rfl, rfl⟩, ⟨1, by kernel_rfl, by decide⟩⟩
instance : Fi Tryz.prog 61 2 2 3 := ⟨⟨_, _, Tryz.underlying61, rfl, rfl, rfl⟩, ⟨1, by kernel_rfl, by decide⟩⟩
instance : Fi Tryz.prog 61 3 3 56 := ⟨⟨_, _, Tryz.underlying61, rfl, rfl, rfl⟩, ⟨1, by kernel_rfl, by decide⟩⟩
instance : Bd Tryz.prog 61 (fun i : Nat => ([(0, 1), (1, 1), (2, 1), (3, 1)] : List (Nat × Nat))[i]?) (Value.cells (.agg #[.int .i64 0, .slice none 0 0, .int .i64 0, .slice none 0 0])) := bd_struct Tryz.underlying61 (by kernel_rfl) (by kernel_rfl)
instance : Ag Tryz.prog 62 4 := ⟨by kernel_rfl, ⟨_, Tryz.underlying62, rfl⟩⟩
instance : Sz Tryz.prog 62 4 := ⟨by kernel_rfl⟩
instance : By Tryz.prog 62 64 := ⟨by kernel_rfl⟩
instance : Zr Tryz.prog 62 (.agg #[.int .i64 0, .slice none 0 0, .int .i64 0, .slice none 0 0]) := ⟨by kernel_rfl⟩
instance : Zc Tryz.prog 62 [.int .i64 0, .slice none 0 0, .int .i64 0, .slice none 0 0] := ⟨⟨.agg #[.int .i64 0, .slice none 0 0, .int .i64 0, .slice none 0 0], by kernel_rfl, rfl⟩⟩
instance : Fi Tryz.prog 62 0 0 3 := ⟨⟨_, _, Tryz.underlying62, rfl, rfl, rfl⟩, ⟨1, by kernel_rfl, by decide⟩⟩
instance : Fi Tryz.prog 62 1 1 22 := ⟨⟨_, _, Tryz.underlying62, rfl, rfl, rfl⟩, ⟨1, by kernel_rfl, by decide⟩⟩
instance : Fi Tryz.prog 62 2 2 3 := ⟨⟨_, _, Tryz.underlying62, rfl, rfl, rfl⟩, ⟨1, by kernel_rfl, by decide⟩⟩
instance : Fi Tryz.prog 62 3 3 56 := ⟨⟨_, _, Tryz.underlying62, rfl, rfl, rfl⟩, ⟨1, by kernel_rfl, by decide⟩⟩
instance : Bd Tryz.prog 62 (fun i : Nat => ([(0, 1), (1, 1), (2, 1), (3, 1)] : List (Nat × Nat))[i]?) (Value.cells (.agg #[.int .i64 0, .slice none 0 0, .int .i64 0, .slice none 0 0])) := bd_struct Tryz.underlying62 (by kernel_rfl) (by kernel_rfl)
instance : Sc Tryz.prog 63 := ⟨by kernel_rfl, ⟨_, Tryz.underlying63, rfl⟩⟩
instance : Sz Tryz.prog 63 1 := ⟨by kernel_rfl⟩
instance : By Tryz.prog 63 8 := ⟨by kernel_rfl⟩
instance : Zr Tryz.prog 63 (.nilFunc) := ⟨by kernel_rfl⟩
instance : Zc Tryz.prog 63 [.nilFunc] := ⟨⟨.nilFunc, by kernel_rfl, rfl⟩⟩
instance : Sc Tryz.prog 64 := ⟨by kernel_rfl, ⟨_, Tryz.underlying64, rfl⟩⟩
instance : Sz Tryz.prog 64 1 := ⟨by kernel_rfl⟩
instance : By Tryz.prog 64 8 := ⟨by kernel_rfl⟩
instance : Zr Tryz.prog 64 (.nilFunc) := ⟨by kernel_rfl⟩
instance : Zc Tryz.prog 64 [.nilFunc] := ⟨⟨.nilFunc, by kernel_rfl, rfl⟩⟩
instance : Sc Tryz.prog 65 := ⟨by kernel_rfl, ⟨_, Tryz.underlying65, rfl⟩⟩
instance : Sz Tryz.prog 65 1 := ⟨by kernel_rfl⟩
instance : By Tryz.prog 65 24 := ⟨by kernel_rfl⟩
instance : Zr Tryz.prog 65 (.slice none 0 0) := ⟨by kernel_rfl⟩
instance : Zc Tryz.prog 65 [.slice none 0 0] := ⟨⟨.slice none 0 0, by kernel_rfl, rfl⟩⟩
instance : Sli Tryz.prog 65 118 := ⟨Tryz.underlying65⟩
instance : Ag Tryz.prog 66 4 := ⟨by kernel_rfl, ⟨_, Tryz.underlying66, rfl⟩⟩
instance : Sz Tryz.prog 66 4 := ⟨by kernel_rfl⟩
instance : By Tryz.prog 66 64 := ⟨by kernel_rfl⟩
instance : Zr Tryz.prog 66 (.agg #[.slice none 0 0, .slice none 0 0, .bool false, .int .i64 0]) := ⟨by kernel_rfl⟩
instance : Zc Tryz.prog 66 [.slice none 0 0, .slice none 0 0, .bool false, .int .i64 0] := ⟨⟨.agg #[.slice none 0 0, .slice none 0 0, .bool false, .int .i64 0], by kernel_rfl, rfl⟩⟩
instance : Fi Tryz.prog 66 0 0 39 := ⟨⟨_, _, Tryz.underlying66, rfl, rfl, rfl⟩, ⟨1, by kernel_rfl, by decide⟩⟩
instance : Fi Tryz.prog 66 1 1 65 := ⟨⟨_, _, Tryz.underlying66, rfl, rfl, rfl⟩, ⟨1, by kernel_rfl, by decide⟩⟩
instance : Fi Tryz.prog 66 2 2 4 := ⟨⟨_, _, Tryz.underlying66, rfl, rfl, rfl⟩, ⟨1, by kernel_rfl, by decide⟩⟩
instance : Fi Tryz.prog 66 3 3 3 := ⟨⟨_, _, Tryz.underlying66, rfl, rfl, rfl⟩, ⟨1, by kernel_rfl, by decide⟩⟩
instance : Bd Tryz.prog 66 (fun i : Nat => ([(0, 1), (1, 1), (2, 1), (3, 1)] : List (Nat × Nat))[i]?) (Value.cells (.agg #[.slice none 0 0, .slice none 0 0, .bool false, .int .i64 0])) := bd_struct Tryz.underlying66 (by kernel_rfl) (by kernel_rfl)
instance : Ag Tryz.prog 67 4 := ⟨by kernel_rfl, ⟨_, Tryz.underlying67, rfl⟩⟩
instance : Sz Tryz.prog 67 4 := ⟨by kernel_rfl⟩
instance : By Tryz.prog 67 64 := ⟨by kernel_rfl⟩
instance : Zr Tryz.prog 67 (.agg #[.slice none 0 0, .slice none 0 0, .bool false, .int .i64 0]) := ⟨by kernel_rfl⟩
instance : Zc Tryz.prog 67 [.slice none 0 0, .slice none 0 0, .bool false, .int .i64 0] := ⟨⟨.agg #[.slice none 0 0, .slice none 0 0, .bool false, .int .i64 0], by kernel_rfl, rfl⟩⟩
instance : Fi Tryz.prog 67 0 0 39 := ⟨⟨_, _, Tryz.underlying67, rfl, rfl, rfl⟩, ⟨1, by kernel_rfl, by decide⟩⟩
instance : Fi Tryz.prog 67 1 1 65 := ⟨⟨_, _, Tryz.underlying67, rfl, rfl, rfl⟩, ⟨1, by kernel_rfl, by decide⟩⟩
instance : Fi Tryz.prog 67 2 2 4 := ⟨⟨_, _, Tryz.underlying67, rfl, rfl, rfl⟩, ⟨1, by kernel_rfl, by decide⟩⟩
instance : Fi Tryz.prog 67 3 3 3 := ⟨⟨_, _, Tryz.underlying67, rfl, rfl, rfl⟩, ⟨1, by kernel_rfl, by decide⟩⟩
instance : Bd Tryz.prog 67 (fun i : Nat => ([(0, 1), (1, 1), (2, 1), (3, 1)] : List (Nat × Nat))[i]?) (Value.cells (.agg #[.slice none 0 0, .slice none 0 0, .bool false, .int .i64 0])) := bd_struct Tryz.underlying67 (by kernel_rfl) (by kernel_rfl)
instance : Sc Tryz.prog 68 := ⟨by kernel_rfl, ⟨_, Tryz.underlying68, rfl⟩⟩
instance : Sz Tryz.prog 68 1 := ⟨by kernel_rfl⟩
instance : By Tryz.prog 68 24 := ⟨by kernel_rfl⟩
instance : Zr Tryz.prog 68 (.slice none 0 0) := ⟨by kernel_rfl⟩
instance : Zc Tryz.prog 68 [.slice none 0 0] := ⟨⟨.slice none 0 0, by kernel_rfl, rfl⟩⟩
instance : Sli Tryz.prog 68 144 := ⟨Tryz.underlying68⟩
instance : Sc Tryz.prog 69 := ⟨by kernel_rfl, ⟨_, Tryz.underlying69, rfl⟩⟩
instance : Sz Tryz.prog 69 1 := ⟨by kernel_rfl⟩
instance : By Tryz.prog 69 24 := ⟨by kernel_rfl⟩
instance : Zr Tryz.prog 69 (.slice none 0 0) := ⟨by kernel_rfl⟩
instance : Zc Tryz.prog 69 [.slice none 0 0] := ⟨⟨.slice none 0 0, by kernel_rfl, rfl⟩⟩
instance : Sli Tryz.prog 69 76 := ⟨Tryz.underlying69⟩
instance : Sc Tryz.prog 70 := ⟨by kernel_rfl, ⟨_, Tryz.underlying70, rfl⟩⟩
instance : Sz Tryz.prog 70 1 := ⟨by kernel_rfl⟩
instance : By Tryz.prog 70 8 := ⟨by kernel_rfl⟩
instance : Zr Tryz.prog 70 (.nilFunc) := ⟨by kernel_rfl⟩
instance : Zc Tryz.prog 70 [.nilFunc] := ⟨⟨.nilFunc, by kernel_rfl, rfl⟩⟩
instance : Sc Tryz.prog 71 := ⟨by kernel_rfl, ⟨_, Tryz.underlying71, rfl⟩⟩
instance : Sz Tryz.prog 71 1 := ⟨by kernel_rfl⟩
instance : By Tryz.prog 71 24 := ⟨by kernel_rfl⟩
instance : Zr Tryz.prog 71 (.slice none 0 0) := ⟨by kernel_rfl⟩
instance : Zc Tryz.prog 71 [.slice none 0 0] := ⟨⟨.slice none 0 0, by kernel_rfl, rfl⟩⟩
instance : Sli Tryz.prog 71 146 := ⟨Tryz.underlying71⟩
instance : Sc Tryz.prog 72 := ⟨by kernel_rfl, ⟨_, Tryz.underlying72, rfl⟩⟩
instance : Sz Tryz.prog 72 1 := ⟨by kernel_rfl⟩
instance : By Tryz.prog 72 8 := ⟨by kernel_rfl⟩
instance : Zr Tryz.prog 72 (.nilFunc) := ⟨by kernel_rfl⟩
instance : Zc Tryz.prog 72 [.nilFunc] := ⟨⟨.nilFunc, by kernel_rfl, rfl⟩⟩
instance : Sc Tryz.prog 74 := ⟨by kernel_rfl, ⟨_, Tryz.underlying74, rfl⟩⟩
instance : Sz Tryz.prog 74 1 := ⟨by kernel_rfl⟩
instance : By Tryz.prog 74 8 := ⟨by kernel_rfl⟩
instance : Zr Tryz.prog 74 (.nilFunc) := ⟨by kernel_rfl⟩
instance : Zc Tryz.prog 74 [.nilFunc] := ⟨⟨.nilFunc, by kernel_rfl, rfl⟩⟩
instance : Ag Tryz.prog 75 5 := ⟨by kernel_rfl, ⟨_, Tryz.underlying75, rfl⟩⟩
instance : Sz Tryz.prog 75 5 := ⟨by kernel_rfl⟩
instance : By Tryz.prog 75 64 := ⟨by kernel_rfl⟩
instance : Zr Tryz.prog 75 (.agg #[.int .i64 0, .int .i64 0, .slice none 0 0, .int .i64 0, .string ByteArray.empty]) := ⟨by kernel_rfl⟩
instance : Zc Tryz.prog 75 [.int .i64 0, .int .i64 0, .slice none 0 0, .int .i64 0, .string ByteArray.empty] := ⟨⟨.agg #[.int .i64 0, .int .i64 0, .slice none 0 0, .int .i64 0, .string ByteArray.empty], by kernel_rfl, rfl⟩⟩
instance : Fi Tryz.prog 75 0 0 3 := ⟨⟨_, _, Tryz.underlying75, rfl, rfl, rfl⟩, ⟨1, by kernel_rfl, by decide⟩⟩
instance : Fi Tryz.prog 75 1 1 3 := ⟨⟨_, _, Tryz.underlying75, rfl, rfl, rfl⟩, ⟨1, by kernel_rfl, by decide⟩⟩
instance : Fi Tryz.prog 75 2 2 71 := ⟨⟨_, _, Tryz.underlying75, rfl, rfl, rfl⟩, ⟨1, by kernel_rfl, by decide⟩⟩
instance : Fi Tryz.prog 75 3 3 3 := ⟨⟨_, _, Tryz.underlying75, rfl, rfl, rfl⟩, ⟨1, by kernel_rfl, by decide⟩⟩
instance : Fi Tryz.prog 75 4 4 9 := ⟨⟨_, _, Tryz.underlying75, rfl, rfl, rfl⟩, ⟨1, by kernel_rfl, by decide⟩⟩
instance : Bd Tryz.prog 75 (fun i : Nat => ([(0, 1), (1, 1), (2, 1), (3, 1), (4, 1)] : List (Nat × Nat))[i]?) (Value.cells (.agg #[.int .i64 0, .int .i64 0, .slice none 0 0, .int .i64 0, .string ByteArray.empty])) := bd_struct Tryz.underlying75 (by kernel_rfl) (by kernel_rfl)
instance : Ag Tryz.prog 76 5 := ⟨by kernel_rfl, ⟨_, Tryz.underlying76, rfl⟩⟩
instance : Sz Tryz.prog 76 5 := ⟨by kernel_rfl⟩
instance : By Tryz.prog 76 64 := ⟨by kernel_rfl⟩
instance : Zr Tryz.prog 76 (.agg #[.int .i64 0, .int .i64 0, .slice none 0 0, .int .i64 0, .string ByteArray.empty]) := ⟨by kernel_rfl⟩
instance : Zc Tryz.prog 76 [.int .i64 0, .int .i64 0, .slice none 0 0, .int .i64 0, .string ByteArray.empty] := ⟨⟨.agg #[.int .i64 0, .int .i64 0, .slice none 0 0, .int .i64 0, .string ByteArray.empty], by kernel_rfl, rfl⟩⟩
instance : Fi Tryz.prog 76 0 0 3 := ⟨⟨_, _, Tryz.underlying76, rfl, rfl, rfl⟩, ⟨1, by kernel_rfl, by decide⟩⟩
instance : Fi Tryz.prog 76 1 1 3 := ⟨⟨_, _, Tryz.underlying76, rfl, rfl, rfl⟩, ⟨1, by kernel_rfl, by decide⟩⟩
instance : Fi Tryz.prog 76 2 2 71 := ⟨⟨_, _, Tryz.underlying76, rfl, rfl, rfl⟩, ⟨1, by kernel_rfl, by decide⟩⟩
instance : Fi Tryz.prog 76 3 3 3 := ⟨⟨_, _, Tryz.underlying76, rfl, rfl, rfl⟩, ⟨1, by kernel_rfl, by decide⟩⟩
instance : Fi Tryz.prog 76 4 4 9 := ⟨⟨_, _, Tryz.underlying76, rfl, rfl, rfl⟩, ⟨1, by kernel_rfl, by decide⟩⟩
instance : Bd Tryz.prog 76 (fun i : Nat => ([(0, 1), (1, 1), (2, 1), (3, 1), (4, 1)] : List (Nat × Nat))[i]?) (Value.cells (.agg #[.int .i64 0, .int .i64 0, .slice none 0 0, .int .i64 0, .string ByteArray.empty])) := bd_struct Tryz.underlying76 (by kernel_rfl) (by kernel_rfl)
instance : Ag Tryz.prog 77 1 := ⟨by kernel_rfl, ⟨_, Tryz.underlying77, rfl⟩⟩
instance : Sz Tryz.prog 77 1 := ⟨by kernel_rfl⟩
instance : By Tryz.prog 77 24 := ⟨by kernel_rfl⟩
instance : Zr Tryz.prog 77 (.agg #[.slice none 0 0]) := ⟨by kernel_rfl⟩
instance : Zc Tryz.prog 77 [.slice none 0 0] := ⟨⟨.agg #[.slice none 0 0], by kernel_rfl, rfl⟩⟩
instance : Fi Tryz.prog 77 0 0 69 := ⟨⟨_, _, Tryz.underlying77, rfl, rfl, rfl⟩, ⟨1, by kernel_rfl, by decide⟩⟩
instance : Bd Tryz.prog 77 (fun i : Nat => ([(0, 1)] : List (Nat × Nat))[i]?) (Value.cells (.agg #[.slice none 0 0])) := bd_struct Tryz.underlying77 (by kernel_rfl) (by kernel_rfl)
instance : Ag Tryz.prog 78 1 := ⟨by kernel_rfl, ⟨_, Tryz.underlying78, rfl⟩⟩
instance : Sz Tryz.prog 78 1 := ⟨by kernel_rfl⟩
instance : By Tryz.prog 78 24 := ⟨by kernel_rfl⟩
instance : Zr Tryz.prog 78 (.agg #[.slice none 0 0]) := ⟨by kernel_rfl⟩
instance : Zc Tryz.prog 78 [.slice none 0 0] := ⟨⟨.agg #[.slice none 0 0], by kernel_rfl, rfl⟩⟩
instance : Fi Tryz.prog 78 0 0 69 := ⟨⟨_, _, Tryz.underlying78, rfl, rfl, rfl⟩, ⟨1, by kernel_rfl, by decide⟩⟩
instance : Bd Tryz.prog 78 (fun i : Nat => ([(0, 1)] : List (Nat × Nat))[i]?) (Value.cells (.agg #[.slice none 0 0])) := bd_struct Tryz.underlying78 (by kernel_rfl) (by kernel_rfl)
instance : Sc Tryz.prog 80 := ⟨by kernel_rfl, ⟨_, Tryz.underlying80, rfl⟩⟩
instance : Sz Tryz.prog 80 1 := ⟨by kernel_rfl⟩
instance : By Tryz.prog 80 8 := ⟨by kernel_rfl⟩
instance : Zr Tryz.prog 80 (.nilFunc) := ⟨by kernel_rfl⟩
instance : Zc Tryz.prog 80 [.nilFunc] := ⟨⟨.nilFunc, by kernel_rfl, rfl⟩⟩
instance : Sc Tryz.prog 82 := ⟨by kernel_rfl, ⟨_, Tryz.underlying82, rfl⟩⟩
instance : Sz Tryz.prog 82 1 := ⟨by kernel_rfl⟩
instance : By Tryz.prog 82 8 := ⟨by kernel_rfl⟩
instance : Zr Tryz.prog 82 (.nilFunc) := ⟨by kernel_rfl⟩
instance : Zc Tryz.prog 82 [.nilFunc] := ⟨⟨.nilFunc, by kernel_rfl, rfl⟩⟩
instance : Sc Tryz.prog 83 := ⟨by kernel_rfl, ⟨_, Tryz.underlying83, rfl⟩⟩
instance : Sz Tryz.prog 83 1 := ⟨by kernel_rfl⟩
instance : By Tryz.prog 83 8 := ⟨by kernel_rfl⟩
instance : Zr Tryz.prog 83 (.nilFunc) := ⟨by kernel_rfl⟩
instance : Zc Tryz.prog 83 [.nilFunc] := ⟨⟨.nilFunc, by kernel_rfl, rfl⟩⟩
instance : Sc Tryz.prog 84 := ⟨by kernel_rfl, ⟨_, Tryz.underlying84, rfl⟩⟩
instance : Sz Tryz.prog 84 1 := ⟨by kernel_rfl⟩
instance : By Tryz.prog 84 8 := ⟨by kernel_rfl⟩
instance : Zr Tryz.prog 84 (.nilFunc) := ⟨by kernel_rfl⟩
instance : Zc Tryz.prog 84 [.nilFunc] := ⟨⟨.nilFunc, by kernel_rfl, rfl⟩⟩
instance : Sc Tryz.prog 85 := ⟨by kernel_rfl, ⟨_, Tryz.underlying85, rfl⟩⟩
instance : Sz Tryz.prog 85 1 := ⟨by kernel_rfl⟩
instance : By Tryz.prog 85 8 := ⟨by kernel_rfl⟩
instance : Zr Tryz.prog 85 (.nilFunc) := ⟨by kernel_rfl⟩
instance : Zc Tryz.prog 85 [.nilFunc] := ⟨⟨.nilFunc, by kernel_rfl, rfl⟩⟩
instance : Sc Tryz.prog 87 := ⟨by kernel_rfl, ⟨_, Tryz.underlying87, rfl⟩⟩
instance : Sz Tryz.prog 87 1 := ⟨by kernel_rfl⟩
instance : By Tryz.prog 87 8 := ⟨by kernel_rfl⟩
instance : Zr Tryz.prog 87 (.nilFunc) := ⟨by kernel_rfl⟩
instance : Zc Tryz.prog 87 [.nilFunc] := ⟨⟨.nilFunc, by kernel_rfl, rfl⟩⟩
instance : Sc Tryz.prog 88 := ⟨by kernel_rfl, ⟨_, Tryz.underlying88, rfl⟩⟩
instance : Sz Tryz.prog 88 1 := ⟨by kernel_rfl⟩
instance : By Tryz.prog 88 8 := ⟨by kernel_rfl⟩
instance : Zr Tryz.prog 88 (.nilFunc) := ⟨by kernel_rfl⟩
instance : Zc Tryz.prog 88 [.nilFunc] := ⟨⟨.nilFunc, by kernel_rfl, rfl⟩⟩
instance : Ag Tryz.prog 89 3 := ⟨by kernel_rfl, ⟨_, Tryz.underlying89, rfl⟩⟩
instance : Sz Tryz.prog 89 3 := ⟨by kernel_rfl⟩
instance : By Tryz.prog 89 48 := ⟨by kernel_rfl⟩
instance : Zr Tryz.prog 89 (.agg #[.slice none 0 0, .string ByteArray.empty, .int .i64 0]) := ⟨by kernel_rfl⟩
instance : Zc Tryz.prog 89 [.slice none 0 0, .string ByteArray.empty, .int .i64 0] := ⟨⟨.agg #[.slice none 0 0, .string ByteArray.empty, .int .i64 0], by kernel_rfl, rfl⟩⟩
instance : Fi Tryz.prog 89 0 0 22 := ⟨⟨_, _, Tryz.underlying89, rfl, rfl, rfl⟩, ⟨1, by kernel_rfl, by decide⟩⟩
instance : Fi Tryz.prog 89 1 1 9 := ⟨⟨_, _, Tryz.underlying89, rfl, rfl, rfl⟩, ⟨1, by kernel_rfl, by decide⟩⟩
instance : Fi Tryz.prog 89 2 2 3 := ⟨⟨_, _, Tryz.underlying89, rfl, rfl, rfl⟩, ⟨1, by kernel_rfl, by decide⟩⟩
instance : Bd Tryz.prog 89 (fun i : Nat => ([(0, 1), (1, 1), (2, 1)] : List (Nat × Nat))[i]?) (Value.cells (.agg #[.slice none 0 0, .string ByteArray.empty, .int .i64 0])) := bd_struct Tryz.underlying89 (by kernel_rfl) (by kernel_rfl)
instance : Ag Tryz.prog 90 3 := ⟨by kernel_rfl, ⟨_, Tryz.underlying90, rfl⟩⟩
instance : Sz Tryz.prog 90 3 := ⟨by kernel_rfl⟩
instance : By Tryz.prog 90 48 := ⟨by kernel_rfl⟩
instance : Zr Tryz.prog 90 (.agg #[.slice none 0 0, .string ByteArray.empty, .int .i64 0]) := ⟨by kernel_rfl⟩
instance : Zc Tryz.prog 90 [.slice none 0 0, .string ByteArray.empty, .int .i64 0] := ⟨⟨.agg #[.slice none 0 0, .string ByteArray.empty, .int .i64 0], by kernel_rfl, rfl⟩⟩
instance : Fi Tryz.prog 90 0 0 22 := ⟨⟨_, _, Tryz.underlying90, rfl, rfl, rfl⟩, ⟨1, by kernel_rfl, by decide⟩⟩
instance : Fi Tryz.prog 90 1 1 9 := ⟨⟨_, _, Tryz.underlying90, rfl, rfl, rfl⟩, ⟨1, by kernel_rfl, by decide⟩⟩
instance : Fi Tryz.prog 90 2 2 3 := ⟨⟨_, _, Tryz.underlying90, rfl, rfl, rfl⟩, ⟨1, by kernel_rfl, by decide⟩⟩
instance : Bd Tryz.prog 90 (fun i : Nat => ([(0, 1), (1, 1), (2, 1)] : List (Nat × Nat))[i]?) (Value.cells (.agg #[.slice none 0 0, .string ByteArray.empty, .int .i64 0])) := bd_struct Tryz.underlying90 (by kernel_rfl) (by kernel_rfl)
instance : Ag Tryz.prog 91 5 := ⟨by kernel_rfl, ⟨_, Tryz.underlying91, rfl⟩⟩
instance : Sz Tryz.prog 91 5 := ⟨by kernel_rfl⟩
instance : By Tryz.prog 91 64 := ⟨by kernel_rfl⟩
instance : Zr Tryz.prog 91 (.agg #[.slice none 0 0, .string ByteArray.empty, .int .i64 0, .pointer none, .bool false]) := ⟨by kernel_rfl⟩
instance : Zc Tryz.prog 91 [.slice none 0 0, .string ByteArray.empty, .int .i64 0, .pointer none, .bool false] := ⟨⟨.agg #[.slice none 0 0, .string ByteArray.empty, .int .i64 0, .pointer none, .bool false], by kernel_rfl, rfl⟩⟩
instance : Fi Tryz.prog 91 0 0 90 := ⟨⟨_, _, Tryz.underlying91, rfl, rfl, rfl⟩, ⟨3, by kernel_rfl, by decide⟩⟩
instance : Fi Tryz.prog 91 1 3 27 := ⟨⟨_, _, Tryz.underlying91, rfl, rfl, rfl⟩, ⟨1, by kernel_rfl, by decide⟩⟩
instance : Fi Tryz.prog 91 2 4 4 := ⟨⟨_, _, Tryz.underlying91, rfl, rfl, rfl⟩, ⟨1, by kernel_rfl, by decide⟩⟩
instance : Bd Tryz.prog 91 (fun i : Nat => ([(0, 3), (3, 1), (4, 1)] : List (Nat × Nat))[i]?) (Value.cells (.agg #[.slice none 0 0, .string ByteArray.empty, .int .i64 0, .pointer none, .bool false])) := bd_struct Tryz.underlying91 (by kernel_rfl) (by kernel_rfl)
instance : Ag Tryz.prog 92 5 := ⟨by kernel_rfl, ⟨_, Tryz.underlying92, rfl⟩⟩
instance : Sz Tryz.prog 92 5 := ⟨by kernel_rfl⟩
instance : By Tryz.prog 92 64 := ⟨by kernel_rfl⟩
instance : Zr Tryz.prog 92 (.agg #[.slice none 0 0, .string ByteArray.empty, .int .i64 0, .pointer none, .bool false]) := ⟨by kernel_rfl⟩
instance : Zc Tryz.prog 92 [.slice none 0 0, .string ByteArray.empty, .int .i64 0, .pointer none, .bool false] := ⟨⟨.agg #[.slice none 0 0, .string ByteArray.empty, .int .i64 0, .pointer none, .bool false], by kernel_rfl, rfl⟩⟩
instance : Fi Tryz.prog 92 0 0 90 := ⟨⟨_, _, Tryz.underlying92, rfl, rfl, rfl⟩, ⟨3, by kernel_rfl, by decide⟩⟩
instance : Fi Tryz.prog 92 1 3 27 := ⟨⟨_, _, Tryz.underlying92, rfl, rfl, rfl⟩, ⟨1, by kernel_rfl, by decide⟩⟩
instance : Fi Tryz.prog 92 2 4 4 := ⟨⟨_, _, Tryz.underlying92, rfl, rfl, rfl⟩, ⟨1, by kernel_rfl, by decide⟩⟩
instance : Bd Tryz.prog 92 (fun i : Nat => ([(0, 3), (3, 1), (4, 1)] : List (Nat × Nat))[i]?) (Value.cells (.agg #[.slice none 0 0, .string ByteArray.empty, .int .i64 0, .pointer none, .bool false])) := bd_struct Tryz.underlying92 (by kernel_rfl) (by kernel_rfl)
instance : Sc Tryz.prog 93 := ⟨by kernel_rfl, ⟨_, Tryz.underlying93, rfl⟩⟩
instance : Sz Tryz.prog 93 1 := ⟨by kernel_rfl⟩
instance : By Tryz.prog 93 8 := ⟨by kernel_rfl⟩
instance : Zr Tryz.prog 93 (.nilFunc) := ⟨by kernel_rfl⟩
instance : Zc Tryz.prog 93 [.nilFunc] := ⟨⟨.nilFunc, by kernel_rfl, rfl⟩⟩
instance : Sc Tryz.prog 94 := ⟨by kernel_rfl, ⟨_, Tryz.underlying94, rfl⟩⟩
instance : Sz Tryz.prog 94 1 := ⟨by kernel_rfl⟩
instance : By Tryz.prog 94 8 := ⟨by kernel_rfl⟩
instance : Zr Tryz.prog 94 (.pointer none) := ⟨by kernel_rfl⟩
instance : Zc Tryz.prog 94 [.pointer none] := ⟨⟨.pointer none, by kernel_rfl, rfl⟩⟩
instance : Ag Tryz.prog 95 2 := ⟨by kernel_rfl, ⟨_, Tryz.underlying95, rfl⟩⟩
instance : Sz Tryz.prog 95 2 := ⟨by kernel_rfl⟩
instance : By Tryz.prog 95 32 := ⟨by kernel_rfl⟩
instance : Zr Tryz.prog 95 (.agg #[.pointer none, .slice none 0 0]) := ⟨by kernel_rfl⟩
instance : Zc Tryz.prog 95 [.pointer none, .slice none 0 0] := ⟨⟨.agg #[.pointer none, .slice none 0 0], by kernel_rfl, rfl⟩⟩
instance : Fi Tryz.prog 95 0 0 94 := ⟨⟨_, _, Tryz.underlying95, rfl, rfl, rfl⟩, ⟨1, by kernel_rfl, by decide⟩⟩
instance : Fi Tryz.prog 95 1 1 39 := ⟨⟨_, _, Tryz.underlying95, rfl, rfl, rfl⟩, ⟨1, by kernel_rfl, by decide⟩⟩
instance : Bd Tryz.prog 95 (fun i : Nat => ([(0, 1), (1, 1)] : List (Nat × Nat))[i]?) (Value.cells (.agg #[.pointer none, .slice none 0 0])) := bd_struct Tryz.underlying95 (by kernel_rfl) (by kernel_rfl)
instance : Ag Tryz.prog 96 2 := ⟨by kernel_rfl, ⟨_, Tryz.underlying96, rfl⟩⟩
instance : Sz Tryz.prog 96 2 := ⟨by kernel_rfl⟩
instance : By Tryz.prog 96 32 := ⟨by kernel_rfl⟩
instance : Zr Tryz.prog 96 (.agg #[.pointer none, .slice none 0 0]) := ⟨by kernel_rfl⟩
instance : Zc Tryz.prog 96 [.pointer none, .slice none 0 0] := ⟨⟨.agg #[.pointer none, .slice none 0 0], by kernel_rfl, rfl⟩⟩
instance : Fi Tryz.prog 96 0 0 94 := ⟨⟨_, _, Tryz.underlying96, rfl, rfl, rfl⟩, ⟨1, by kernel_rfl, by decide⟩⟩
instance : Fi Tryz.prog 96 1 1 39 := ⟨⟨_, _, Tryz.underlying96, rfl, rfl, rfl⟩, ⟨1, by kernel_rfl, by decide⟩⟩
instance : Bd Tryz.prog 96 (fun i : Nat => ([(0, 1), (1, 1)] : List (Nat × Nat))[i]?) (Value.cells (.agg #[.pointer none, .slice none 0 0])) := bd_struct Tryz.underlying96 (by kernel_rfl) (by kernel_rfl)
instance : Sc Tryz.prog 97 := ⟨by kernel_rfl, ⟨_, Tryz.underlying97, rfl⟩⟩
instance : Sz Tryz.prog 97 1 := ⟨by kernel_rfl⟩
instance : By Tryz.prog 97 16 := ⟨by kernel_rfl⟩
instance : Zr Tryz.prog 97 (.nilIface) := ⟨by kernel_rfl⟩
instance : Zc Tryz.prog 97 [.nilIface] := ⟨⟨.nilIface, by kernel_rfl, rfl⟩⟩
instance : Sc Tryz.prog 98 := ⟨by kernel_rfl, ⟨_, Tryz.underlying98, rfl⟩⟩
instance : Sz Tryz.prog 98 1 := ⟨by kernel_rfl⟩
instance : By Tryz.prog 98 16 := ⟨by kernel_rfl⟩
instance : Zr Tryz.prog 98 (.nilIface) := ⟨by kernel_rfl⟩
instance : Zc Tryz.prog 98 [.nilIface] := ⟨⟨.nilIface, by kernel_rfl, rfl⟩⟩
instance : Sc Tryz.prog 100 := ⟨by kernel_rfl, ⟨_, Tryz.underlying100, rfl⟩⟩
instance : Sz Tryz.prog 100 1 := ⟨by kernel_rfl⟩
instance : By Tryz.prog 100 8 := ⟨by kernel_rfl⟩
instance : Zr Tryz.prog 100 (.nilFunc) := ⟨by kernel_rfl⟩
instance : Zc Tryz.prog 100 [.nilFunc] := ⟨⟨.nilFunc, by kernel_rfl, rfl⟩⟩
instance : Sc Tryz.prog 101 := ⟨by kernel_rfl, ⟨_, Tryz.underlying101, rfl⟩⟩
instance : Sz Tryz.prog 101 1 := ⟨by kernel_rfl⟩
instance : By Tryz.prog 101 8 := ⟨by kernel_rfl⟩
instance : Zr Tryz.prog 101 (.nilFunc) := ⟨by kernel_rfl⟩
instance : Zc Tryz.prog 101 [.nilFunc] := ⟨⟨.nilFunc, by kernel_rfl, rfl⟩⟩
instance : Sc Tryz.prog 102 := ⟨by kernel_rfl, ⟨_, Tryz.underlying102, rfl⟩⟩
instance : Sz Tryz.prog 102 1 := ⟨by kernel_rfl⟩
instance : By Tryz.prog 102 8 := ⟨by kernel_rfl⟩
instance : Zr Tryz.prog 102 (.nilFunc) := ⟨by kernel_rfl⟩
instance : Zc Tryz.prog 102 [.nilFunc] := ⟨⟨.nilFunc, by kernel_rfl, rfl⟩⟩
instance : Sc Tryz.prog 103 := ⟨by kernel_rfl, ⟨_, Tryz.underlying103, rfl⟩⟩
instance : Sz Tryz.prog 103 1 := ⟨by kernel_rfl⟩
instance : By Tryz.prog 103 8 := ⟨by kernel_rfl⟩
instance : Zr Tryz.prog 103 (.nilFunc) := ⟨by kernel_rfl⟩
instance : Zc Tryz.prog 103 [.nilFunc] := ⟨⟨.nilFunc, by kernel_rfl, rfl⟩⟩
instance : Sc Tryz.prog 104 := ⟨by kernel_rfl, ⟨_, Tryz.underlying104, rfl⟩⟩
instance : Sz Tryz.prog 104 1 := ⟨by kernel_rfl⟩
instance : By Tryz.prog 104 8 := ⟨by kernel_rfl⟩
instance : Zr Tryz.prog 104 (.nilFunc) := ⟨by kernel_rfl⟩
instance : Zc Tryz.prog 104 [.nilFunc] := ⟨⟨.nilFunc, by kernel_rfl, rfl⟩⟩
instance : Sc Tryz.prog 105 := ⟨by kernel_rfl, ⟨_, Tryz.underlying105, rfl⟩⟩
instance : Sz Tryz.prog 105 1 := ⟨by kernel_rfl⟩
instance : By Tryz.prog 105 8 := ⟨by kernel_rfl⟩
instance : Zr Tryz.prog 105 (.nilFunc) := ⟨by kernel_rfl⟩
instance : Zc Tryz.prog 105 [.nilFunc] := ⟨⟨.nilFunc, by kernel_rfl, rfl⟩⟩
instance : Sc Tryz.prog 107 := ⟨by kernel_rfl, ⟨_, Tryz.underlying107, rfl⟩⟩
instance : Sz Tryz.prog 107 1 := ⟨by kernel_rfl⟩
instance : By Tryz.prog 107 8 := ⟨by kernel_rfl⟩
instance : Zr Tryz.prog 107 (.nilFunc) := ⟨by kernel_rfl⟩
instance : Zc Tryz.prog 107 [.nilFunc] := ⟨⟨.nilFunc, by kernel_rfl, rfl⟩⟩
instance : Sc Tryz.prog 108 := ⟨by kernel_rfl, ⟨_, Tryz.underlying108, rfl⟩⟩
instance : Sz Tryz.prog 108 1 := ⟨by kernel_rfl⟩
instance : By Tryz.prog 108 8 := ⟨by kernel_rfl⟩
instance : Zr Tryz.prog 108 (.nilFunc) := ⟨by kernel_rfl⟩
instance : Zc Tryz.prog 108 [.nilFunc] := ⟨⟨.nilFunc, by kernel_rfl, rfl⟩⟩
instance : Ag Tryz.prog 109 2 := ⟨by kernel_rfl, ⟨_, Tryz.underlying109, rfl⟩⟩
instance : Sz Tryz.prog 109 2 := ⟨by kernel_rfl⟩
instance : By Tryz.prog 109 24 := ⟨by kernel_rfl⟩
instance : Zr Tryz.prog 109 (.agg #[.int .i64 0, .string ByteArray.empty]) := ⟨by kernel_rfl⟩
instance : Zc Tryz.prog 109 [.int .i64 0, .string ByteArray.empty] := ⟨⟨.agg #[.int .i64 0, .string ByteArray.empty], by kernel_rfl, rfl⟩⟩
instance : Fi Tryz.prog 109 0 0 3 := ⟨⟨_, _, Tryz.underlying109, rfl, rfl, rfl⟩, ⟨1, by kernel_rfl, by decide⟩⟩
instance : Fi Tryz.prog 109 1 1 9 := ⟨⟨_, _, Tryz.underlying109, rfl, rfl, rfl⟩, ⟨1, by kernel_rfl, by decide⟩⟩
instance : Bd Tryz.prog 109 (fun i : Nat => ([(0, 1), (1, 1)] : List (Nat × Nat))[i]?) (Value.cells (.agg #[.int .i64 0, .string ByteArray.empty])) := bd_struct Tryz.underlying109 (by kernel_rfl) (by kernel_rfl)
instance : Ag Tryz.prog 110 2 := ⟨by kernel_rfl, ⟨_, Tryz.underlying110, rfl⟩⟩
instance : Sz Tryz.prog 110 2 := ⟨by kernel_rfl⟩
instance : By Tryz.prog 110 24 := ⟨by kernel_rfl⟩
instance : Zr Tryz.prog 110 (.agg #[.int .i64 0, .string ByteArray.empty]) := ⟨by kernel_rfl⟩
instance : Zc Tryz.prog 110 [.int .i64 0, .string ByteArray.empty] := ⟨⟨.agg #[.int .i64 0, .string ByteArray.empty], by kernel_rfl, rfl⟩⟩
instance : Fi Tryz.prog 110 0 0 3 := ⟨⟨_, _, Tryz.underlying110, rfl, rfl, rfl⟩, ⟨1, by kernel_rfl, by decide⟩⟩
instance : Fi Tryz.prog 110 1 1 9 := ⟨⟨_, _, Tryz.underlying110, rfl, rfl, rfl⟩, ⟨1, by kernel_rfl, by decide⟩⟩
instance : Bd Tryz.prog 110 (fun i : Nat => ([(0, 1), (1, 1)] : List (Nat × Nat))[i]?) (Value.cells (.agg #[.int .i64 0, .string ByteArray.empty])) := bd_struct Tryz.underlying110 (by kernel_rfl) (by kernel_rfl)
instance : Sc Tryz.prog 111 := ⟨by kernel_rfl, ⟨_, Tryz.underlying111, rfl⟩⟩
instance : Sz Tryz.prog 111 1 := ⟨by kernel_rfl⟩
instance : By Tryz.prog 111 24 := ⟨by kernel_rfl⟩
instance : Zr Tryz.prog 111 (.slice none 0 0) := ⟨by kernel_rfl⟩
instance : Zc Tryz.prog 111 [.slice none 0 0] := ⟨⟨.slice none 0 0, by kernel_rfl, rfl⟩⟩
instance : Sli Tryz.prog 111 110 := ⟨Tryz.underlying111⟩
instance : Ag Tryz.prog 112 2 := ⟨by kernel_rfl, ⟨_, Tryz.underlying112, rfl⟩⟩
instance : Sz Tryz.prog 112 2 := ⟨by kernel_rfl⟩
instance : By Tryz.prog 112 16 := ⟨by kernel_rfl⟩
instance : Zr Tryz.prog 112 (.agg #[.bool false, .int .i64 0]) := ⟨by kernel_rfl⟩
instance : Zc Tryz.prog 112 [.bool false, .int .i64 0] := ⟨⟨.agg #[.bool false, .int .i64 0], by kernel_rfl, rfl⟩⟩
instance : Fi Tryz.prog 112 0 0 4 := ⟨⟨_, _, Tryz.underlying112, rfl, rfl, rfl⟩, ⟨1, by kernel_rfl, by decide⟩⟩
instance : Fi Tryz.prog 112 1 1 3 := ⟨⟨_, _, Tryz.underlying112, rfl, rfl, rfl⟩, ⟨1, by kernel_rfl, by decide⟩⟩
instance : Bd Tryz.prog 112 (fun i : Nat => ([(0, 1), (1, 1)] : List (Nat × Nat))[i]?) (Value.cells (.agg #[.bool false, .int .i64 0])) := bd_struct Tryz.underlying112 (by kernel_rfl) (by kernel_rfl)
instance : Ag Tryz.prog 113 2 := ⟨by kernel_rfl, ⟨_, Tryz.underlying113, rfl⟩⟩
instance : Sz Tryz.prog 113 2 := ⟨by kernel_rfl⟩
instance : By Tryz.prog 113 16 := ⟨by kernel_rfl⟩
instance : Zr Tryz.prog 113 (.agg #[.bool false, .int .i64 0]) := ⟨by kernel_rfl⟩
instance : Zc Tryz.prog 113 [.bool false, .int .i64 0] := ⟨⟨.agg #[.bool false, .int .i64 0], by kernel_rfl, rfl⟩⟩
instance : Fi Tryz.prog 113 0 0 4 := ⟨⟨_, _, Tryz.underlying113, rfl, rfl, rfl⟩, ⟨1, by kernel_rfl, by decide⟩⟩
instance : Fi Tryz.prog 113 1 1 3 := ⟨⟨_, _, Tryz.underlying113, rfl, rfl, rfl⟩, ⟨1, by kernel_rfl, by decide⟩⟩
instance : Bd Tryz.prog 113 (fun i : Nat => ([(0, 1), (1, 1)] : List (Nat × Nat))[i]?) (Value.cells (.agg #[.bool false, .int .i64 0])) := bd_struct Tryz.underlying113 (by kernel_rfl) (by kernel_rfl)
instance : Ag Tryz.prog 114 5 := ⟨by kernel_rfl, ⟨_, Tryz.underlying114, rfl⟩⟩
instance : Sz Tryz.prog 114 5 := ⟨by kernel_rfl⟩
instance : By Tryz.prog 114 88 := ⟨by kernel_rfl⟩
instance : Zr Tryz.prog 114 (.agg #[.bool false, .int .i64 0, .slice none 0 0, .slice none 0 0, .slice none 0 0]) := ⟨by kernel_rfl⟩
instance : Zc Tryz.prog 114 [.bool false, .int .i64 0, .slice none 0 0, .slice none 0 0, .slice none 0 0] := ⟨⟨.agg #[.bool false, .int .i64 0, .slice none 0 0, .slice none 0 0, .slice none 0 0], by kernel_rfl, rfl⟩⟩
instance : Fi Tryz.prog 114 0 0 113 := ⟨⟨_, _, Tryz.underlying114, rfl, rfl, rfl⟩, ⟨2, by kernel_rfl, by decide⟩⟩
instance : Fi Tryz.prog 114 1 2 39 := ⟨⟨_, _, Tryz.underlying114, rfl, rfl, rfl⟩, ⟨1, by kernel_rfl, by decide⟩⟩
instance : Fi Tryz.prog 114 2 3 39 := ⟨⟨_, _, Tryz.underlying114, rfl, rfl, rfl⟩, ⟨1, by kernel_rfl, by decide⟩⟩
instance : Fi Tryz.prog 114 3 4 111 := ⟨⟨_, _, Tryz.underlying114, rfl, rfl, rfl⟩, ⟨1, by kernel_rfl, by decide⟩⟩
instance : Bd Tryz.prog 114 (fun i : Nat => ([(0, 2), (2, 1), (3, 1), (4, 1)] : List (Nat × Nat))[i]?) (Value.cells (.agg #[.bool false, .int .i64 0, .slice none 0 0, .slice none 0 0, .slice none 0 0])) := bd_struct Tryz.underlying114 (by kernel_rfl) (by kernel_rfl)
instance : Ag Tryz.prog 115 5 := ⟨by kernel_rfl, ⟨_, Tryz.underlying115, rfl⟩⟩
instance : Sz Tryz.prog 115 5 := ⟨by kernel_rfl⟩
instance : By Tryz.prog 115 88 := ⟨by kernel_rfl⟩
instance : Zr Tryz.prog 115 (.agg #[.bool false, .int .i64 0, .slice none 0 0, .slice none 0 0, .slice none 0 0]) := ⟨by kernel_rfl⟩
instance : Zc Tryz.prog 115 [.bool false, .int .i64 0, .slice none 0 0, .slice none 0 0, .slice none 0 0] := ⟨⟨.agg #[.bool false, .int .i64 0, .slice none 0 0, .slice none 0 0, .slice none 0 0], by kernel_rfl, rfl⟩⟩
instance : Fi Tryz.prog 115 0 0 113 := ⟨⟨_, _, Tryz.underlying115, rfl, rfl, rfl⟩, ⟨2, by kernel_rfl, by decide⟩⟩
instance : Fi Tryz.prog 115 1 2 39 := ⟨⟨_, _, Tryz.underlying115, rfl, rfl, rfl⟩, ⟨1, by kernel_rfl, by decide⟩⟩
instance : Fi Tryz.prog 115 2 3 39 := ⟨⟨_, _, Tryz.underlying115, rfl, rfl, rfl⟩, ⟨1, by kernel_rfl, by decide⟩⟩
instance : Fi Tryz.prog 115 3 4 111 := ⟨⟨_, _, Tryz.underlying115, rfl, rfl, rfl⟩, ⟨1, by kernel_rfl, by decide⟩⟩
instance : Bd Tryz.prog 115 (fun i : Nat => ([(0, 2), (2, 1), (3, 1), (4, 1)] : List (Nat × Nat))[i]?) (Value.cells (.agg #[.bool false, .int .i64 0, .slice none 0 0, .slice none 0 0, .slice none 0 0])) := bd_struct Tryz.underlying115 (by kernel_rfl) (by kernel_rfl)
instance : Sc Tryz.prog 116 := ⟨by kernel_rfl, ⟨_, Tryz.underlying116, rfl⟩⟩
instance : Sz Tryz.prog 116 1 := ⟨by kernel_rfl⟩
instance : By Tryz.prog 116 8 := ⟨by kernel_rfl⟩
instance : Zr Tryz.prog 116 (.nilFunc) := ⟨by kernel_rfl⟩
instance : Zc Tryz.prog 116 [.nilFunc] := ⟨⟨.nilFunc, by kernel_rfl, rfl⟩⟩
instance : Ag Tryz.prog 117 2 := ⟨by kernel_rfl, ⟨_, Tryz.underlying117, rfl⟩⟩
instance : Sz Tryz.prog 117 2 := ⟨by kernel_rfl⟩
instance : By Tryz.prog 117 24 := ⟨by kernel_rfl⟩
instance : Zr Tryz.prog 117 (.agg #[.int .i64 0, .string ByteArray.empty]) := ⟨by kernel_rfl⟩
instance : Zc Tryz.prog 117 [.int .i64 0, .string ByteArray.empty] := ⟨⟨.agg #[.int .i64 0, .string ByteArray.empty], by kernel_rfl, rfl⟩⟩
instance : Fi Tryz.prog 117 0 0 3 := ⟨⟨_, _, Tryz.underlying117, rfl, rfl, rfl⟩, ⟨1, by kernel_rfl, by decide⟩⟩
instance : Fi Tryz.prog 117 1 1 9 := ⟨⟨_, _, Tryz.underlying117, rfl, rfl, rfl⟩, ⟨1, by kernel_rfl, by decide⟩⟩
instance : Bd Tryz.prog 117 (fun i : Nat => ([(0, 1), (1, 1)] : List (Nat × Nat))[i]?) (Value.cells (.agg #[.int .i64 0, .string ByteArray.empty])) := bd_struct Tryz.underlying117 (by kernel_rfl) (by kernel_rfl)
instance : Ag Tryz.prog 118 2 := ⟨by kernel_rfl, ⟨_, Tryz.underlying118, rfl⟩⟩
instance : Sz Tryz.prog 118 2 := ⟨by kernel_rfl⟩
instance : By Tryz.prog 118 24 := ⟨by kernel_rfl⟩
instance : Zr Tryz.prog 118 (.agg #[.int .i64 0, .string ByteArray.empty]) := ⟨by kernel_rfl⟩
instance : Zc Tryz.prog 118 [.int .i64 0, .string ByteArray.empty] := ⟨⟨.agg #[.int .i64 0, .string ByteArray.empty], by kernel_rfl, rfl⟩⟩
instance : Fi Tryz.prog 118 0 0 3 := ⟨⟨_, _, Tryz.underlying118, rfl, rfl, rfl⟩, ⟨1, by kernel_rfl, by decide⟩⟩
instance : Fi Tryz.prog 118 1 1 9 := ⟨⟨_, _, Tryz.underlying118, rfl, rfl, rfl⟩, ⟨1, by kernel_rfl, by decide⟩⟩
instance : Bd Tryz.prog 118 (fun i : Nat => ([(0, 1), (1, 1)] : List (Nat × Nat))[i]?) (Value.cells (.agg #[.int .i64 0, .string ByteArray.empty])) := bd_struct Tryz.underlying118 (by kernel_rfl) (by kernel_rfl)
instance : Sc Tryz.prog 120 := ⟨by kernel_rfl, ⟨_, Tryz.underlying120, rfl⟩⟩
instance : Sz Tryz.prog 120 1 := ⟨by kernel_rfl⟩
instance : By Tryz.prog 120 8 := ⟨by kernel_rfl⟩
instance : Zr Tryz.prog 120 (.nilFunc) := ⟨by kernel_rfl⟩
instance : Zc Tryz.prog 120 [.nilFunc] := ⟨⟨.nilFunc, by kernel_rfl, rfl⟩⟩
instance : Sc Tryz.prog 121 := ⟨by kernel_rfl, ⟨_, Tryz.underlying121, rfl⟩⟩
instance : Sz Tryz.prog 121 1 := ⟨by kernel_rfl⟩
instance : By Tryz.prog 121 8 := ⟨by kernel_rfl⟩
instance : Zr Tryz.prog 121 (.nilFunc) := ⟨by kernel_rfl⟩
instance : Zc Tryz.prog 121 [.nilFunc] := ⟨⟨.nilFunc, by kernel_rfl, rfl⟩⟩
instance : Sc Tryz.prog 122 := ⟨by kernel_rfl, ⟨_, Tryz.underlying122, rfl⟩⟩
instance : Sz Tryz.prog 122 1 := ⟨by kernel_rfl⟩
instance : By Tryz.prog 122 8 := ⟨by kernel_rfl⟩
instance : Zr Tryz.prog 122 (.nilFunc) := ⟨by kernel_rfl⟩
instance : Zc Tryz.prog 122 [.nilFunc] := ⟨⟨.nilFunc, by kernel_rfl, rfl⟩⟩
instance : Sc Tryz.prog 123 := ⟨by kernel_rfl, ⟨_, Tryz.underlying123, rfl⟩⟩
instance : Sz Tryz.prog 123 1 := ⟨by kernel_rfl⟩
instance : By Tryz.prog 123 8 := ⟨by kernel_rfl⟩
instance : Zr Tryz.prog 123 (.nilFunc) := ⟨by kernel_rfl⟩
instance : Zc Tryz.prog 123 [.nilFunc] := ⟨⟨.nilFunc, by kernel_rfl, rfl⟩⟩
instance : Sc Tryz.prog 124 := ⟨by kernel_rfl, ⟨_, Tryz.underlying124, rfl⟩⟩
instance : Sz Tryz.prog 124 1 := ⟨by kernel_rfl⟩
instance : By Tryz.prog 124 8 := ⟨by kernel_rfl⟩
instance : Zr Tryz.prog 124 (.nilFunc) := ⟨by kernel_rfl⟩
instance : Zc Tryz.prog 124 [.nilFunc] := ⟨⟨.nilFunc, by kernel_rfl, rfl⟩⟩
instance : Sc Tryz.prog 125 := ⟨by kernel_rfl, ⟨_, Tryz.underlying125, rfl⟩⟩
instance : Sz Tryz.prog 125 1 := ⟨by kernel_rfl⟩
instance : By Tryz.prog 125 8 := ⟨by kernel_rfl⟩
instance : Zr Tryz.prog 125 (.nilFunc) := ⟨by kernel_rfl⟩
instance : Zc Tryz.prog 125 [.nilFunc] := ⟨⟨.nilFunc, by kernel_rfl, rfl⟩⟩
instance : Sc Tryz.prog 126 := ⟨by kernel_rfl, ⟨_, Tryz.underlying126, rfl⟩⟩
instance : Sz Tryz.prog 126 1 := ⟨by kernel_rfl⟩
instance : By Tryz.prog 126 4 := ⟨by kernel_rfl⟩
instance : Zr Tryz.prog 126 (.int .u32 0) := ⟨by kernel_rfl⟩
instance : Zc Tryz.prog 126 [.int .u32 0] := ⟨⟨.int .u32 0, by kernel_rfl, rfl⟩⟩
instance : Ity Tryz.prog 126 .u32 := ⟨Tryz.underlying126⟩
instance : Sc Tryz.prog 127 := ⟨by kernel_rfl, ⟨_, Tryz.underlying127, rfl⟩⟩
instance : Sz Tryz.prog 127 1 := ⟨by kernel_rfl⟩
instance : By Tryz.prog 127 24 := ⟨by kernel_rfl⟩
instance : Zr Tryz.prog 127 (.slice none 0 0) := ⟨by kernel_rfl⟩
instance : Zc Tryz.prog 127 [.slice none 0 0] := ⟨⟨.slice none 0 0, by kernel_rfl, rfl⟩⟩
instance : Sli Tryz.prog 127 126 := ⟨Tryz.underlying127⟩
instance : Sc Tryz.prog 128 := ⟨by kernel_rfl, ⟨_, Tryz.underlying128, rfl⟩⟩
instance : Sz Tryz.prog 128 1 := ⟨by kernel_rfl⟩
instance : By Tryz.prog 128 8 := ⟨by kernel_rfl⟩
instance : Zr Tryz.prog 128 (.nilFunc) := ⟨by kernel_rfl⟩
instance : Zc Tryz.prog 128 [.nilFunc] := ⟨⟨.nilFunc, by kernel_rfl, rfl⟩⟩
instance : Sc Tryz.prog 129 := ⟨by kernel_rfl, ⟨_, Tryz.underlying129, rfl⟩⟩
instance : Sz Tryz.prog 129 1 := ⟨by kernel_rfl⟩
instance : By Tryz.prog 129 8 := ⟨by kernel_rfl⟩
instance : Zr Tryz.prog 129 (.nilFunc) := ⟨by kernel_rfl⟩
instance : Zc Tryz.prog 129 [.nilFunc] := ⟨⟨.nilFunc, by kernel_rfl, rfl⟩⟩
instance : Sc Tryz.prog 130 := ⟨by kernel_rfl, ⟨_, Tryz.underlying130, rfl⟩⟩
instance : Sz Tryz.prog 130 1 := ⟨by kernel_rfl⟩
instance : By Tryz.prog 130 8 := ⟨by kernel_rfl⟩
instance : Zr Tryz.prog 130 (.int .u64 0) := ⟨by kernel_rfl⟩
instance : Zc Tryz.prog 130 [.int .u64 0] := ⟨⟨.int .u64 0, by kernel_rfl, rfl⟩⟩
instance : Ity Tryz.prog 130 .u64 := ⟨Tryz.underlying130⟩
instance : Sc Tryz.prog 131 := ⟨by kernel_rfl, ⟨_, Tryz.underlying131, rfl⟩⟩
instance : Sz Tryz.prog 131 1 := ⟨by kernel_rfl⟩
instance : By Tryz.prog 131 8 := ⟨by kernel_rfl⟩
instance : Zr Tryz.prog 131 (.nilFunc) := ⟨by kernel_rfl⟩
instance : Zc Tryz.prog 131 [.nilFunc] := ⟨⟨.nilFunc, by kernel_rfl, rfl⟩⟩
instance : Sc Tryz.prog 132 := ⟨by kernel_rfl, ⟨_, Tryz.underlying132, rfl⟩⟩
instance : Sz Tryz.prog 132 1 := ⟨by kernel_rfl⟩
instance : By Tryz.prog 132 8 := ⟨by kernel_rfl⟩
instance : Zr Tryz.prog 132 (.nilFunc) := ⟨by kernel_rfl⟩
instance : Zc Tryz.prog 132 [.nilFunc] := ⟨⟨.nilFunc, by kernel_rfl, rfl⟩⟩
instance : Sc Tryz.prog 133 := ⟨by kernel_rfl, ⟨_, Tryz.underlying133, rfl⟩⟩
instance : Sz Tryz.prog 133 1 := ⟨by kernel_rfl⟩
instance : By Tryz.prog 133 8 := ⟨by kernel_rfl⟩
instance : Zr Tryz.prog 133 (.nilFunc) := ⟨by kernel_rfl⟩
instance : Zc Tryz.prog 133 [.nilFunc] := ⟨⟨.nilFunc, by kernel_rfl, rfl⟩⟩
instance : Sc Tryz.prog 134 := ⟨by kernel_rfl, ⟨_, Tryz.underlying134, rfl⟩⟩
instance : Sz Tryz.prog 134 1 := ⟨by kernel_rfl⟩
instance : By Tryz.prog 134 8 := ⟨by kernel_rfl⟩
instance : Zr Tryz.prog 134 (.nilFunc) := ⟨by kernel_rfl⟩
instance : Zc Tryz.prog 134 [.nilFunc] := ⟨⟨.nilFunc, by kernel_rfl, rfl⟩⟩
instance : Sc Tryz.prog 135 := ⟨by kernel_rfl, ⟨_, Tryz.underlying135, rfl⟩⟩
instance : Sz Tryz.prog 135 1 := ⟨by kernel_rfl⟩
instance : By Tryz.prog 135 8 := ⟨by kernel_rfl⟩
instance : Zr Tryz.prog 135 (.nilFunc) := ⟨by kernel_rfl⟩
instance : Zc Tryz.prog 135 [.nilFunc] := ⟨⟨.nilFunc, by kernel_rfl, rfl⟩⟩
instance : Sc Tryz.prog 136 := ⟨by kernel_rfl, ⟨_, Tryz.underlying136, rfl⟩⟩
instance : Sz Tryz.prog 136 1 := ⟨by kernel_rfl⟩
instance : By Tryz.prog 136 8 := ⟨by kernel_rfl⟩
instance : Zr Tryz.prog 136 (.nilFunc) := ⟨by kernel_rfl⟩
instance : Zc Tryz.prog 136 [.nilFunc] := ⟨⟨.nilFunc, by kernel_rfl, rfl⟩⟩
instance : Sc Tryz.prog 137 := ⟨by kernel_rfl, ⟨_, Tryz.underlying137, rfl⟩⟩
instance : Sz Tryz.prog 137 1 := ⟨by kernel_rfl⟩
instance : By Tryz.prog 137 8 := ⟨by kernel_rfl⟩
instance : Zr Tryz.prog 137 (.nilFunc) := ⟨by kernel_rfl⟩
instance : Zc Tryz.prog 137 [.nilFunc] := ⟨⟨.nilFunc, by kernel_rfl, rfl⟩⟩
instance : Sc Tryz.prog 138 := ⟨by kernel_rfl, ⟨_, Tryz.underlying138, rfl⟩⟩
instance : Sz Tryz.prog 138 1 := ⟨by kernel_rfl⟩
instance : By Tryz.prog 138 8 := ⟨by kernel_rfl⟩
instance : Zr Tryz.prog 138 (.nilFunc) := ⟨by kernel_rfl⟩
instance : Zc Tryz.prog 138 [.nilFunc] := ⟨⟨.nilFunc, by kernel_rfl, rfl⟩⟩
instance : Sc Tryz.prog 139 := ⟨by kernel_rfl, ⟨_, Tryz.underlying139, rfl⟩⟩
instance : Sz Tryz.prog 139 1 := ⟨by kernel_rfl⟩
instance : By Tryz.prog 139 8 := ⟨by kernel_rfl⟩
instance : Zr Tryz.prog 139 (.nilFunc) := ⟨by kernel_rfl⟩
instance : Zc Tryz.prog 139 [.nilFunc] := ⟨⟨.nilFunc, by kernel_rfl, rfl⟩⟩
instance : Sc Tryz.prog 140 := ⟨by kernel_rfl, ⟨_, Tryz.underlying140, rfl⟩⟩
instance : Sz Tryz.prog 140 1 := ⟨by kernel_rfl⟩
instance : By Tryz.prog 140 8 := ⟨by kernel_rfl⟩
instance : Zr Tryz.prog 140 (.nilFunc) := ⟨by kernel_rfl⟩
instance : Zc Tryz.prog 140 [.nilFunc] := ⟨⟨.nilFunc, by kernel_rfl, rfl⟩⟩
instance : Sc Tryz.prog 142 := ⟨by kernel_rfl, ⟨_, Tryz.underlying142, rfl⟩⟩
instance : Sz Tryz.prog 142 1 := ⟨by kernel_rfl⟩
instance : By Tryz.prog 142 8 := ⟨by kernel_rfl⟩
instance : Zr Tryz.prog 142 (.nilFunc) := ⟨by kernel_rfl⟩
instance : Zc Tryz.prog 142 [.nilFunc] := ⟨⟨.nilFunc, by kernel_rfl, rfl⟩⟩
instance : Sc Tryz.prog 143 := ⟨by kernel_rfl, ⟨_, Tryz.underlying143, rfl⟩⟩
instance : Sz Tryz.prog 143 1 := ⟨by kernel_rfl⟩
instance : By Tryz.prog 143 8 := ⟨by kernel_rfl⟩
instance : Zr Tryz.prog 143 (.nilFunc) := ⟨by kernel_rfl⟩
instance : Zc Tryz.prog 143 [.nilFunc] := ⟨⟨.nilFunc, by kernel_rfl, rfl⟩⟩
instance : Ag Tryz.prog 144 6 := ⟨by kernel_rfl, ⟨_, Tryz.underlying144, rfl⟩⟩
instance : Sz Tryz.prog 144 6 := ⟨by kernel_rfl⟩
instance : By Tryz.prog 144 48 := ⟨by kernel_rfl⟩
instance : Zr Tryz.prog 144 (.agg #[.int .i64 0, .int .i64 0, .int .i64 0, .int .i64 0, .int .i64 0, .int .i64 0]) := ⟨by kernel_rfl⟩
instance : Zc Tryz.prog 144 [.int .i64 0, .int .i64 0, .int .i64 0, .int .i64 0, .int .i64 0, .int .i64 0] := ⟨⟨.agg #[.int .i64 0, .int .i64 0, .int .i64 0, .int .i64 0, .int .i64 0, .int .i64 0], by kernel_rfl, rfl⟩⟩
instance : Arr Tryz.prog 144 6 3 := ⟨Tryz.underlying144⟩
instance : Bd Tryz.prog 144 (fun i => some (i * 1, 1)) (Value.cells (.agg #[.int .i64 0, .int .i64 0, .int .i64 0, .int .i64 0, .int .i64 0, .int .i64 0])) := bd_array Tryz.underlying144 (by kernel_rfl) (by kernel_rfl)
instance : Ag Tryz.prog 145 12 := ⟨by kernel_rfl, ⟨_, Tryz.underlying145, rfl⟩⟩
instance : Sz Tryz.prog 145 12 := ⟨by kernel_rfl⟩
instance : By Tryz.prog 145 96 := ⟨by kernel_rfl⟩
instance : Zr Tryz.prog 145 (.agg #[.int .i64 0, .int .i64 0, .int .i64 0, .int .i64 0, .int .i64 0, .int .i64 0, .int .i64 0, .int .i64 0, .int .i64 0, .int .i64 0, .int .i64 0, .int .i64 0]) := ⟨by kernel_rfl⟩
instance : Zc Tryz.prog 145 [.int .i64 0, .int .i64 0, .int .i64 0, .int .i64 0, .int .i64 0, .int .i64 0, .int .i64 0, .int .i64 0, .int .i64 0, .int .i64 0, .int .i64 0, .int .i64 0] := ⟨⟨.agg #[.int .i64 0, .int .i64 0, .int .i64 0, .int .i64 0, .int .i64 0, .int .i64 0, .int .i64 0, .int .i64 0, .int .i64 0, .int .i64 0, .int .i64 0, .int .i64 0], by kernel_rfl, rfl⟩⟩
instance : Fi Tryz.prog 145 0 0 3 := ⟨⟨_, _, Tryz.underlying145, rfl, rfl, rfl⟩, ⟨1, by kernel_rfl, by decide⟩⟩
instance : Fi Tryz.prog 145 1 1 3 := ⟨⟨_, _, Tryz.underlying145, rfl, rfl, rfl⟩, ⟨1, by kernel_rfl, by decide⟩⟩
instance : Fi Tryz.prog 145 2 2 3 := ⟨⟨_, _, Tryz.underlying145, rfl, rfl, rfl⟩, ⟨1, by kernel_rfl, by decide⟩⟩
instance : Fi Tryz.prog 145 3 3 3 := ⟨⟨_, _, Tryz.underlying145, rfl, rfl, rfl⟩, ⟨1, by kernel_rfl, by decide⟩⟩
instance : Fi Tryz.prog 145 4 4 3 := ⟨⟨_, _, Tryz.underlying145, rfl, rfl, rfl⟩, ⟨1, by kernel_rfl, by decide⟩⟩
instance : Fi Tryz.prog 145 5 5 3 := ⟨⟨_, _, Tryz.underlying145, rfl, rfl, rfl⟩, ⟨1, by kernel_rfl, by decide⟩⟩
instance : Fi Tryz.prog 145 6 6 3 := ⟨⟨_, _, Tryz.underlying145, rfl, rfl, rfl⟩, ⟨1, by kernel_rfl, by decide⟩⟩
instance : Fi Tryz.prog 145 7 7 3 := ⟨⟨_, _, Tryz.underlying145, rfl, rfl, rfl⟩, ⟨1, by kernel_rfl, by decide⟩⟩
instance : Fi Tryz.prog 145 8 8 3 := ⟨⟨_, _, Tryz.underlying145, rfl, rfl, rfl⟩, ⟨1, by kernel_rfl, by decide⟩⟩
instance : Fi Tryz.prog 145 9 9 3 := ⟨⟨_, _, Tryz.underlying145, rfl, rfl, rfl⟩, ⟨1, by kernel_rfl, by decide⟩⟩
instance : Fi Tryz.prog 145 10 10 3 := ⟨⟨_, _, Tryz.underlying145, rfl, rfl, rfl⟩, ⟨1, by kernel_rfl, by decide⟩⟩
instance : Fi Tryz.prog 145 11 11 3 := ⟨⟨_, _, Tryz.underlying145, rfl, rfl, rfl⟩, ⟨1, by kernel_rfl, by decide⟩⟩
instance : Bd Tryz.prog 145 (fun i : Nat => ([(0, 1), (1, 1), (2, 1), (3, 1), (4, 1), (5, 1), (6, 1), (7, 1), (8, 1), (9, 1), (10, 1), (11, 1)] : List (Nat × Nat))[i]?) (Value.cells (.agg #[.int .i64 0, .int .i64 0, .int .i64 0, .int .i64 0, .int .i64 0, .int .i64 0, .int .i64 0, .int .i64 0, .int .i64 0, .int .i64 0, .int .i64 0, .int .i64 0])) := bd_struct Tryz.underlying145 (by kernel_rfl) (by kernel_rfl)
instance : Ag Tryz.prog 146 12 := ⟨by kernel_rfl, ⟨_, Tryz.underlying146, rfl⟩⟩
instance : Sz Tryz.prog 146 12 := ⟨by kernel_rfl⟩
instance : By Tryz.prog 146 96 := ⟨by kernel_rfl⟩
instance : Zr Tryz.prog 146 (.agg #[.int .i64 0, .int .i64 0, .int .i64 0, .int .i64 0, .int .i64 0, .int .i64 0, .int .i64 0, .int .i64 0, .int .i64 0, .int .i64 0, .int .i64 0, .int .i64 0]) := ⟨by kernel_rfl⟩
instance : Zc Tryz.prog 146 [.int .i64 0, .int .i64 0, .int .i64 0, .int .i64 0, .int .i64 0, .int .i64 0, .int .i64 0, .int .i64 0, .int .i64 0, .int .i64 0, .int .i64 0, .int .i64 0] := ⟨⟨.agg #[.int .i64 0, .int .i64 0, .int .i64 0, .int .i64 0, .int .i64 0, .int .i64 0, .int .i64 0, .int .i64 0, .int .i64 0, .int .i64 0, .int .i64 0, .int .i64 0], by kernel_rfl, rfl⟩⟩
instance : Fi Tryz.prog 146 0 0 3 := ⟨⟨_, _, Tryz.underlying146, rfl, rfl, rfl⟩, ⟨1, by kernel_rfl, by decide⟩⟩
instance : Fi Tryz.prog 146 1 1 3 := ⟨⟨_, _, Tryz.underlying146, rfl, rfl, rfl⟩, ⟨1, by kernel_rfl, by decide⟩⟩
instance : Fi Tryz.prog 146 2 2 3 := ⟨⟨_, _, Tryz.underlying146, rfl, rfl, rfl⟩, ⟨1, by kernel_rfl, by decide⟩⟩
instance : Fi Tryz.prog 146 3 3 3 := ⟨⟨_, _, Tryz.underlying146, rfl, rfl, rfl⟩, ⟨1, by kernel_rfl, by decide⟩⟩
instance : Fi Tryz.prog 146 4 4 3 := ⟨⟨_, _, Tryz.underlying146, rfl, rfl, rfl⟩, ⟨1, by kernel_rfl, by decide⟩⟩
instance : Fi Tryz.prog 146 5 5 3 := ⟨⟨_, _, Tryz.underlying146, rfl, rfl, rfl⟩, ⟨1, by kernel_rfl, by decide⟩⟩
instance : Fi Tryz.prog 146 6 6 3 := ⟨⟨_, _, Tryz.underlying146, rfl, rfl, rfl⟩, ⟨1, by kernel_rfl, by decide⟩⟩
instance : Fi Tryz.prog 146 7 7 3 := ⟨⟨_, _, Tryz.underlying146, rfl, rfl, rfl⟩, ⟨1, by kernel_rfl, by decide⟩⟩
instance : Fi Tryz.prog 146 8 8 3 := ⟨⟨_, _, Tryz.underlying146, rfl, rfl, rfl⟩, ⟨1, by kernel_rfl, by decide⟩⟩
instance : Fi Tryz.prog 146 9 9 3 := ⟨⟨_, _, Tryz.underlying146, rfl, rfl, rfl⟩, ⟨1, by kernel_rfl, by decide⟩⟩
instance : Fi Tryz.prog 146 10 10 3 := ⟨⟨_, _, Tryz.underlying146, rfl, rfl, rfl⟩, ⟨1, by kernel_rfl, by decide⟩⟩
instance : Fi Tryz.prog 146 11 11 3 := ⟨⟨_, _, Tryz.underlying146, rfl, rfl, rfl⟩, ⟨1, by kernel_rfl, by decide⟩⟩
instance : Bd Tryz.prog 146 (fun i : Nat => ([(0, 1), (1, 1), (2, 1), (3, 1), (4, 1), (5, 1), (6, 1), (7, 1), (8, 1), (9, 1), (10, 1), (11, 1)] : List (Nat × Nat))[i]?) (Value.cells (.agg #[.int .i64 0, .int .i64 0, .int .i64 0, .int .i64 0, .int .i64 0, .int .i64 0, .int .i64 0, .int .i64 0, .int .i64 0, .int .i64 0, .int .i64 0, .int .i64 0])) := bd_struct Tryz.underlying146 (by kernel_rfl) (by kernel_rfl)
instance : Sc Tryz.prog 147 := ⟨by kernel_rfl, ⟨_, Tryz.underlying147, rfl⟩⟩
instance : Sz Tryz.prog 147 1 := ⟨by kernel_rfl⟩
instance : By Tryz.prog 147 8 := ⟨by kernel_rfl⟩
instance : Zr Tryz.prog 147 (.nilFunc) := ⟨by kernel_rfl⟩
instance : Zc Tryz.prog 147 [.nilFunc] := ⟨⟨.nilFunc, by kernel_rfl, rfl⟩⟩
instance : Sc Tryz.prog 148 := ⟨by kernel_rfl, ⟨_, Tryz.underlying148, rfl⟩⟩
instance : Sz Tryz.prog 148 1 := ⟨by kernel_rfl⟩
instance : By Tryz.prog 148 8 := ⟨by kernel_rfl⟩
instance : Zr Tryz.prog 148 (.nilFunc) := ⟨by kernel_rfl⟩
instance : Zc Tryz.prog 148 [.nilFunc] := ⟨⟨.nilFunc, by kernel_rfl, rfl⟩⟩
instance : Sc Tryz.prog 149 := ⟨by kernel_rfl, ⟨_, Tryz.underlying149, rfl⟩⟩
instance : Sz Tryz.prog 149 1 := ⟨by kernel_rfl⟩
instance : By Tryz.prog 149 8 := ⟨by kernel_rfl⟩
instance : Zr Tryz.prog 149 (.nilFunc) := ⟨by kernel_rfl⟩
instance : Zc Tryz.prog 149 [.nilFunc] := ⟨⟨.nilFunc, by kernel_rfl, rfl⟩⟩
instance : Sc Tryz.prog 150 := ⟨by kernel_rfl, ⟨_, Tryz.underlying150, rfl⟩⟩
instance : Sz Tryz.prog 150 1 := ⟨by kernel_rfl⟩
instance : By Tryz.prog 150 8 := ⟨by kernel_rfl⟩
instance : Zr Tryz.prog 150 (.nilFunc) := ⟨by kernel_rfl⟩
instance : Zc Tryz.prog 150 [.nilFunc] := ⟨⟨.nilFunc, by kernel_rfl, rfl⟩⟩
instance : Sc Tryz.prog 152 := ⟨by kernel_rfl, ⟨_, Tryz.underlying152, rfl⟩⟩
instance : Sz Tryz.prog 152 1 := ⟨by kernel_rfl⟩
instance : By Tryz.prog 152 8 := ⟨by kernel_rfl⟩
instance : Zr Tryz.prog 152 (.nilFunc) := ⟨by kernel_rfl⟩
instance : Zc Tryz.prog 152 [.nilFunc] := ⟨⟨.nilFunc, by kernel_rfl, rfl⟩⟩
instance : Sc Tryz.prog 154 := ⟨by kernel_rfl, ⟨_, Tryz.underlying154, rfl⟩⟩
instance : Sz Tryz.prog 154 1 := ⟨by kernel_rfl⟩
instance : By Tryz.prog 154 8 := ⟨by kernel_rfl⟩
instance : Zr Tryz.prog 154 (.nilFunc) := ⟨by kernel_rfl⟩
instance : Zc Tryz.prog 154 [.nilFunc] := ⟨⟨.nilFunc, by kernel_rfl, rfl⟩⟩
instance : Sc Tryz.prog 155 := ⟨by kernel_rfl, ⟨_, Tryz.underlying155, rfl⟩⟩
instance : Sz Tryz.prog 155 1 := ⟨by kernel_rfl⟩
instance : By Tryz.prog 155 8 := ⟨by kernel_rfl⟩
instance : Zr Tryz.prog 155 (.nilFunc) := ⟨by kernel_rfl⟩
instance : Zc Tryz.prog 155 [.nilFunc] := ⟨⟨.nilFunc, by kernel_rfl, rfl⟩⟩
instance : Ag Tryz.prog 156 6 := ⟨by kernel_rfl, ⟨_, Tryz.underlying156, rfl⟩⟩
instance : Sz Tryz.prog 156 6 := ⟨by kernel_rfl⟩
instance : By Tryz.prog 156 112 := ⟨by kernel_rfl⟩
instance : Zr Tryz.prog 156 (.agg #[.slice none 0 0, .int .i64 0, .slice none 0 0, .slice none 0 0, .slice none 0 0, .bool false]) := ⟨by kernel_rfl⟩
instance : Zc Tryz.prog 156 [.slice none 0 0, .int .i64 0, .slice none 0 0, .slice none 0 0, .slice none 0 0, .bool false] := ⟨⟨.agg #[.slice none 0 0, .int .i64 0, .slice none 0 0, .slice none 0 0, .slice none 0 0, .bool false], by kernel_rfl, rfl⟩⟩
instance : Fi Tryz.prog 156 0 0 78 := ⟨⟨_, _, Tryz.underlying156, rfl, rfl, rfl⟩, ⟨1, by kernel_rfl, by decide⟩⟩
instance : Fi Tryz.prog 156 1 1 3 := ⟨⟨_, _, Tryz.underlying156, rfl, rfl, rfl⟩, ⟨1, by kernel_rfl, by decide⟩⟩
instance : Fi Tryz.prog 156 2 2 71 := ⟨⟨_, _, Tryz.underlying156, rfl, rfl, rfl⟩, ⟨1, by kernel_rfl, by decide⟩⟩
instance : Fi Tryz.prog 156 3 3 22 := ⟨⟨_, _, Tryz.underlying156, rfl, rfl, rfl⟩, ⟨1, by kernel_rfl, by decide⟩⟩
instance : Fi Tryz.prog 156 4 4 69 := ⟨⟨_, _, Tryz.underlying156, rfl, rfl, rfl⟩, ⟨1, by kernel_rfl, by decide⟩⟩
instance : Fi Tryz.prog 156 5 5 4 := ⟨⟨_, _, Tryz.underlying156, rfl, rfl, rfl⟩, ⟨1, by kernel_rfl, by decide⟩⟩
instance : Bd Tryz.prog 156 (fun i : Nat => ([(0, 1), (1, 1), (2, 1), (3, 1), (4, 1), (5, 1)] : List (Nat × Nat))[i]?) (Value.cells (.agg #[.slice none 0 0, .int .i64 0, .slice none 0 0, .slice none 0 0, .slice none 0 0, .bool false])) := bd_struct Tryz.underlying156 (by kernel_rfl) (by kernel_rfl)
instance : Ag Tryz.prog 157 6 := ⟨by kernel_rfl, ⟨_, Tryz.underlying157, rfl⟩⟩
instance : Sz Tryz.prog 157 6 := ⟨by kernel_rfl⟩
instance : By Tryz.prog 157 112 := ⟨by kernel_rfl⟩
instance : Zr Tryz.prog 157 (.agg #[.slice none 0 0, .int .i64 0, .slice none 0 0, .slice none 0 0, .slice none 0 0, .bool false]) := ⟨by kernel_rfl⟩
instance : Zc Tryz.prog 157 [.slice none 0 0, .int .i64 0, .slice none 0 0, .slice none 0 0, .slice none 0 0, .bool false] := ⟨⟨.agg #[.slice none 0 0, .int .i64 0, .slice none 0 0, .slice none 0 0, .slice none 0 0, .bool false], by kernel_rfl, rfl⟩⟩
instance : Fi Tryz.prog 157 0 0 78 := ⟨⟨_, _, Tryz.underlying157, rfl, rfl, rfl⟩, ⟨1, by kernel_rfl, by decide⟩⟩
instance : Fi Tryz.prog 157 1 1 3 := ⟨⟨_, _, Tryz.underlying157, rfl, rfl, rfl⟩, ⟨1, by kernel_rfl, by decide⟩⟩
instance : Fi Tryz.prog 157 2 2 71 := ⟨⟨_, _, Tryz.underlying157, rfl, rfl, rfl⟩, ⟨1, by kernel_rfl, by decide⟩⟩
instance : Fi Tryz.prog 157 3 3 22 := ⟨⟨_, _, Tryz.underlying157, rfl, rfl, rfl⟩, ⟨1, by kernel_rfl, by decide⟩⟩
instance : Fi Tryz.prog 157 4 4 69 := ⟨⟨_, _, Tryz.underlying157, rfl, rfl, rfl⟩, ⟨1, by kernel_rfl, by decide⟩⟩
instance : Fi Tryz.prog 157 5 5 4 := ⟨⟨_, _, Tryz.underlying157, rfl, rfl, rfl⟩, ⟨1, by kernel_rfl, by decide⟩⟩
instance : Bd Tryz.prog 157 (fun i : Nat => ([(0, 1), (1, 1), (2, 1), (3, 1), (4, 1), (5, 1)] : List (Nat × Nat))[i]?) (Value.cells (.agg #[.slice none 0 0, .int .i64 0, .slice none 0 0, .slice none 0 0, .slice none 0 0, .bool false])) := bd_struct Tryz.underlying157 (by kernel_rfl) (by kernel_rfl)
instance : Sc Tryz.prog 158 := ⟨by kernel_rfl, ⟨_, Tryz.underlying158, rfl⟩⟩
instance : Sz Tryz.prog 158 1 := ⟨by kernel_rfl⟩
instance : By Tryz.prog 158 8 := ⟨by kernel_rfl⟩
instance : Zr Tryz.prog 158 (.pointer none) := ⟨by kernel_rfl⟩
instance : Zc Tryz.prog 158 [.pointer none] := ⟨⟨.pointer none, by kernel_rfl, rfl⟩⟩
instance : Sc Tryz.prog 159 := ⟨by kernel_rfl, ⟨_, Tryz.underlying159, rfl⟩⟩
instance : Sz Tryz.prog 159 1 := ⟨by kernel_rfl⟩
instance : By Tryz.prog 159 8 := ⟨by kernel_rfl⟩
instance : Zr Tryz.prog 159 (.nilFunc) := ⟨by kernel_rfl⟩
instance : Zc Tryz.prog 159 [.nilFunc] := ⟨⟨.nilFunc, by kernel_rfl, rfl⟩⟩
instance : Sc Tryz.prog 160 := ⟨by kernel_rfl, ⟨_, Tryz.underlying160, rfl⟩⟩
instance : Sz Tryz.prog 160 1 := ⟨by kernel_rfl⟩
instance : By Tryz.prog 160 8 := ⟨by kernel_rfl⟩
instance : Zr Tryz.prog 160 (.nilFunc) := ⟨by kernel_rfl⟩
instance : Zc Tryz.prog 160 [.nilFunc] := ⟨⟨.nilFunc, by kernel_rfl, rfl⟩⟩
instance : Sc Tryz.prog 161 := ⟨by kernel_rfl, ⟨_, Tryz.underlying161, rfl⟩⟩
instance : Sz Tryz.prog 161 1 := ⟨by kernel_rfl⟩
instance : By Tryz.prog 161 8 := ⟨by kernel_rfl⟩
instance : Zr Tryz.prog 161 (.nilFunc) := ⟨by kernel_rfl⟩
instance : Zc Tryz.prog 161 [.nilFunc] := ⟨⟨.nilFunc, by kernel_rfl, rfl⟩⟩
instance : Sc Tryz.prog 162 := ⟨by kernel_rfl, ⟨_, Tryz.underlying162, rfl⟩⟩
instance : Sz Tryz.prog 162 1 := ⟨by kernel_rfl⟩
instance : By Tryz.prog 162 8 := ⟨by kernel_rfl⟩
instance : Zr Tryz.prog 162 (.nilFunc) := ⟨by kernel_rfl⟩
instance : Zc Tryz.prog 162 [.nilFunc] := ⟨⟨.nilFunc, by kernel_rfl, rfl⟩⟩
instance : Sc Tryz.prog 163 := ⟨by kernel_rfl, ⟨_, Tryz.underlying163, rfl⟩⟩
instance : Sz Tryz.prog 163 1 := ⟨by kernel_rfl⟩
instance : By Tryz.prog 163 8 := ⟨by kernel_rfl⟩
instance : Zr Tryz.prog 163 (.pointer none) := ⟨by kernel_rfl⟩
instance : Zc Tryz.prog 163 [.pointer none] := ⟨⟨.pointer none, by kernel_rfl, rfl⟩⟩
instance : Sc Tryz.prog 164 := ⟨by kernel_rfl, ⟨_, Tryz.underlying164, rfl⟩⟩
instance : Sz Tryz.prog 164 1 := ⟨by kernel_rfl⟩
instance : By Tryz.prog 164 8 := ⟨by kernel_rfl⟩
instance : Zr Tryz.prog 164 (.nilFunc) := ⟨by kernel_rfl⟩
instance : Zc Tryz.prog 164 [.nilFunc] := ⟨⟨.nilFunc, by kernel_rfl, rfl⟩⟩
instance : Sc Tryz.prog 165 := ⟨by kernel_rfl, ⟨_, Tryz.underlying165, rfl⟩⟩
instance : Sz Tryz.prog 165 1 := ⟨by kernel_rfl⟩
instance : By Tryz.prog 165 8 := ⟨by kernel_rfl⟩
instance : Zr Tryz.prog 165 (.pointer none) := ⟨by kernel_rfl⟩
instance : Zc Tryz.prog 165 [.pointer none] := ⟨⟨.pointer none, by kernel_rfl, rfl⟩⟩
instance : Sc Tryz.prog 166 := ⟨by kernel_rfl, ⟨_, Tryz.underlying166, rfl⟩⟩
instance : Sz Tryz.prog 166 1 := ⟨by kernel_rfl⟩
instance : By Tryz.prog 166 24 := ⟨by kernel_rfl⟩
instance : Zr Tryz.prog 166 (.slice none 0 0) := ⟨by kernel_rfl⟩
instance : Zc Tryz.prog 166 [.slice none 0 0] := ⟨⟨.slice none 0 0, by kernel_rfl, rfl⟩⟩
instance : Sli Tryz.prog 166 103 := ⟨Tryz.underlying166⟩
instance : Sc Tryz.prog 167 := ⟨by kernel_rfl, ⟨_, Tryz.underlying167, rfl⟩⟩
instance : Sz Tryz.prog 167 1 := ⟨by kernel_rfl⟩
instance : By Tryz.prog 167 8 := ⟨by kernel_rfl⟩
instance : Zr Tryz.prog 167 (.pointer none) := ⟨by kernel_rfl⟩
instance : Zc Tryz.prog 167 [.pointer none] := ⟨⟨.pointer none, by kernel_rfl, rfl⟩⟩
instance : Sc Tryz.prog 169 := ⟨by kernel_rfl, ⟨_, Tryz.underlying169, rfl⟩⟩
instance : Sz Tryz.prog 169 1 := ⟨by kernel_rfl⟩
instance : By Tryz.prog 169 8 := ⟨by kernel_rfl⟩
instance : Zr Tryz.prog 169 (.nilFunc) := ⟨by kernel_rfl⟩
instance : Zc Tryz.prog 169 [.nilFunc] := ⟨⟨.nilFunc, by kernel_rfl, rfl⟩⟩
instance : Sc Tryz.prog 171 := ⟨by kernel_rfl, ⟨_, Tryz.underlying171, rfl⟩⟩
instance : Sz Tryz.prog 171 1 := ⟨by kernel_rfl⟩
instance : By Tryz.prog 171 8 := ⟨by kernel_rfl⟩
instance : Zr Tryz.prog 171 (.nilFunc) := ⟨by kernel_rfl⟩
instance : Zc Tryz.prog 171 [.nilFunc] := ⟨⟨.nilFunc, by kernel_rfl, rfl⟩⟩
instance : Sc Tryz.prog 172 := ⟨by kernel_rfl, ⟨_, Tryz.underlying172, rfl⟩⟩
instance : Sz Tryz.prog 172 1 := ⟨by kernel_rfl⟩
instance : By Tryz.prog 172 8 := ⟨by kernel_rfl⟩
instance : Zr Tryz.prog 172 (.nilFunc) := ⟨by kernel_rfl⟩
instance : Zc Tryz.prog 172 [.nilFunc] := ⟨⟨.nilFunc, by kernel_rfl, rfl⟩⟩
instance : Sc Tryz.prog 173 := ⟨by kernel_rfl, ⟨_, Tryz.underlying173, rfl⟩⟩
instance : Sz Tryz.prog 173 1 := ⟨by kernel_rfl⟩
instance : By Tryz.prog 173 8 := ⟨by kernel_rfl⟩
instance : Zr Tryz.prog 173 (.nilFunc) := ⟨by kernel_rfl⟩
instance : Zc Tryz.prog 173 [.nilFunc] := ⟨⟨.nilFunc, by kernel_rfl, rfl⟩⟩
instance : Ag Tryz.prog 174 256 := ⟨by kernel_rfl, ⟨_, Tryz.underlying174, rfl⟩⟩
instance : Sz Tryz.prog 174 256 := ⟨by kernel_rfl⟩
instance : By Tryz.prog 174 256 := ⟨by kernel_rfl⟩
instance : Zr Tryz.prog 174 (.agg #[.bool false, .bool false, .bool false, .bool false, .bool false, .bool false, .bool false, .bool false, .bool false, .bool false, .bool false, .bool false, .bool false, .bool false, .bool false, .bool false, .bool false, .bool false, .bool false, .bool false, .bool false, .bool false, .bool false, .bool false, .bool false, .bool false, .bool false, .bool false, .bool false, .bool false, .bool false, .bool false, .bool false, .bool false, .bool false, .bool false, .bool false, .bool false, .bool false, .bool false, .bool false, .bool false, .bool false, .bool false, .bool false, .bool false, .bool false, .bool false, .bool false, .bool false, .bool false, .bool false, .bool false, .bool false, .bool false, .bool false, .bool false, .bool false, .bool false, .bool false, .bool false, .bool false, .bool false, .bool false, .bool false, .bool false, .bool false, .bool false, .bool false, .bool false, .bool false, .bool false, .bool false, .bool false, .bool false, .bool false, .bool false, .bool false, .bool false, .bool false, .bool false, .bool false, .bool false, .bool false, .bool false, .bool false, .bool false, .bool false, .bool false, .bool false, .bool false, .bool false, .bool false, .bool false, .bool false, .bool false, .bool false, .bool false, .bool false, .bool false, .bool false, .bool false, .bool false, .bool false, .bool false, .bool false, .bool false, .bool false, .bool false, .bool false, .bool false, .bool false, .bool false, .bool false, .bool false, .bool false, .bool false, .bool false, .bool false, .bool false, .bool false, .bool false, .bool false, .bool false, .bool false, .bool false, .bool false, .bool false, .bool false, .bool false, .bool false, .bool false, .bool false, .bool false, .bool false, .bool false, .bool false, .bool false, .bool false, .bool false, .bool false, .bool false, .bool false, .bool false, .bool false, .bool false, .bool false, .bool false, .bool false, .bool false, .bool false, .bool false, .bool false, .bool false, .bool false, .bool false, .bool false, .bool false, .bool false, .bool false, .bool false, .bool false, .bool false, .bool false, .bool false, .bool false, .bool false, .bool false, .bool false, .bool false, .bool false, .bool false, .bool false, .bool false, .bool false, .bool false, .bool false, .bool false, .bool false, .bool false, .bool false, .bool false, .bool false, .bool false, .bool false, .bool false, .bool false, .bool false, .bool false, .bool false, .bool false, .bool false, .bool false, .bool false, .bool false, .bool false, .bool false, .bool false, .bool false, .bool false, .bool false, .bool false, .bool false, .bool false, .bool false, .bool false, .bool false, .bool false, .bool false, .bool false, .bool false, .bool false, .bool false, .bool false, .bool false, .bool false, .bool false, .bool false, .bool false, .bool false, .bool false, .bool false, .bool false, .bool false, .bool false, .bool false, .bool false, .bool false, .bool false, .bool false, .bool false, .bool false, .bool false, .bool false, .bool false, .bool false, .bool false, .bool false, .bool false, .bool false, .bool false, .bool false, .bool false, .bool false, .bool false, .bool false, .bool false, .bool false, .bool false, .bool false, .bool false, .bool false, .bool false, .bool false, .bool false, .bool false]) := ⟨by kernel_rfl⟩
instance : Zc Tryz.prog 174 [.bool false, .bool false, .bool false, .bool false, .bool false, .bool false, .bool false, .bool false, .bool false, .bool false, .bool false, .bool false, .bool false, .bool false, .bool false, .bool false, .bool false, .bool false, .bool false, .bool false, .bool false, .bool false, .bool false, .bool false, .bool false, .bool false, .bool false, .bool false, .bool false, .bool false, .bool false, .bool false, .bool false, .bool false, .bool false, .bool false, .bool false, .bool false, .bool false, .bool false, .bool false, .bool false, .bool false, .bool false, .bool false, .bool false, .bool false, .bool false, .bool false, .bool false, .bool false, .bool false, .bool false, .bool false, .bool false, .bool false, .bool false, .bool false, .bool false, .bool false, .bool false, .bool false, .bool false, .bool false, .bool false, .bool false, .bool false, .bool false, .bool false, .bool false, .bool false, .bool false, .bool false, .bool false, .bool false, .bool false, .bool false, .bool false, .bool false, .bool false, .bool false, .bool false, .bool false, .bool false, .bool false, .bool false, .bool false, .bool false, .bool false, .bool false, .bool false, .bool false, .bool false, .bool false, .bool false, .bool false, .bool false, .bool false, .bool false, .bool false, .bool false, .bool false, .bool false, .bool false, .bool false, .bool false, .bool false, .bool false, .bool false, .bool false, .bool false, .bool false, .bool false, .bool false, .bool false, .bool false, .bool false, .bool false, .bool false, .bool false, .bool false, .bool false, .bool false, .bool false, .bool false, .bool false, .bool false, .bool false, .bool false, .bool false, .bool false, .bool false, .bool false, .bool false, .bool false, .bool false, .bool false, .bool false, .bool false, .bool false, .bool false, .bool false, .bool false, .bool false, .bool false, .bool false, .bool false, .bool false, .bool false, .bool false, .bool false, .bool false, .bool false, .bool false, .bool false, .bool false, .bool false, .bool false, .bool false, .bool false, .bool false, .bool false, .bool false, .bool false, .bool false, .bool false, .bool false, .bool false, .bool false, .bool false, .bool false, .bool false, .bool false, .bool false, .bool false, .bool false, .bool false, .bool false, .bool false, .bool false, .bool false, .bool false, .bool false, .bool false, .bool false, .bool false, .bool false, .bool false, .bool false, .bool false, .bool false, .bool false, .bool false, .bool false, .bool false, .bool false, .bool false, .bool false, .bool false, .bool false, .bool false, .bool false, .bool false, .bool false, .bool false, .bool false, .bool false, .bool false, .bool false, .bool false, .bool false, .bool false, .bool false, .bool false, .bool false, .bool false, .bool false, .bool false, .bool false, .bool false, .bool false, .bool false, .bool false, .bool false, .bool false, .bool false, .bool false, .bool false, .bool false, .bool false, .bool false, .bool false, .bool false, .bool false, .bool false, .bool false, .bool false, .bool false, .bool false, .bool false, .bool false, .bool false, .bool false, .bool false, .bool false, .bool false, .bool false, .bool false, .bool false, .bool false, .bool false, .bool false, .bool false, .bool false, .bool false, .bool false] := ⟨⟨.agg #[.bool false, .bool false, .bool false, .bool false, .bool false, .bool false, .bool false, .bool false, .bool false, .bool false, .bool false, .bool false, .bool false, .bool false, .bool false, .bool false, .bool false, .bool false, .bool false, .bool false, .bool false, .bool false, .bool false, .bool false, .bool false, .bool false, .bool false, .bool false, .bool false, .bool false, .bool false, .bool false, .bool false, .bool false, .bool false, .bool false, .bool false, .bool false, .bool false, .bool false, .bool false, .bool false, .bool false, .bool false, .bool false, .bool false, .bool false, .bool false, .bool false, .bool false, .bool false, .bool false, .bool false, .bool false, .bool false, .bool false, .bool false, .bool false, .bool false, .bool false, .bool false, .bool false, .bool false, .bool false, .bool false, .bool false, .bool false, .bool false, .bool false, .bool false, .bool false, .bool false, .bool false, .bool false, .bool false, .bool false, .bool false, .bool false, .bool false, .bool false, .bool false, .bool false, .bool false, .bool false, .bool false, .bool false, .bool false, .bool false, .bool false, .bool false, .bool false, .bool false, .bool false, .bool false, .bool false, .bool false, .bool false, .bool false, .bool false, .bool false, .bool false, .bool false, .bool false, .bool false, .bool false, .bool false, .bool false, .bool false, .bool false, .bool false, .bool false, .bool false, .bool false, .bool false, .bool false, .bool false, .bool false, .bool false, .bool false, .bool false, .bool false, .bool false, .bool false, .bool false, .bool false, .bool false, .bool false, .bool false, .bool false, .bool false, .bool false, .bool false, .bool false, .bool false, .bool false, .bool false, .bool false, .bool false, .bool false, .bool false, .bool false, .bool false, .bool false, .bool false, .bool false, .bool false, .bool false, .bool false, .bool false, .bool false, .bool false, .bool false, .bool false, .bool false, .bool false, .bool false, .bool false, .bool false, .bool false, .bool false, .bool false, .bool false, .bool false, .bool false, .bool false, .bool false, .bool false, .bool false, .bool false, .bool false, .bool false, .bool false, .bool false, .bool false, .bool false, .bool false, .bool false, .bool false, .bool false, .bool false, .bool false, .bool false, .bool false, .bool false, .bool false, .bool false, .bool false, .bool false, .bool false, .bool false, .bool false, .bool false, .bool false, .bool false, .bool false, .bool false, .bool false, .bool false, .bool false, .bool false, .bool false, .bool false, .bool false, .bool false, .bool false, .bool false, .bool false, .bool false, .bool false, .bool false, .bool false, .bool false, .bool false, .bool false, .bool false, .bool false, .bool false, .bool false, .bool false, .bool false, .bool false, .bool false, .bool false, .bool false, .bool false, .bool false, .bool false, .bool false, .bool false, .bool false, .bool false, .bool false, .bool false, .bool false, .bool false, .bool false, .bool false, .bool false, .bool false, .bool false, .bool false, .bool false, .bool false, .bool false, .bool false, .bool false, .bool false, .bool false, .bool false, .bool false, .bool false, .bool false, .bool false, .bool false, .bool false, .bool false], by kernel_rfl, rfl⟩⟩
instance : Arr Tryz.prog 174 256 4 := ⟨Tryz.underlying174⟩
instance : Bd Tryz.prog 174 (fun i => some (i * 1, 1)) (Value.cells (.agg #[.bool false, .bool false, .bool false, .bool false, .bool false, .bool false, .bool false, .bool false, .bool false, .bool false, .bool false, .bool false, .bool false, .bool false, .bool false, .bool false, .bool false, .bool false, .bool false, .bool false, .bool false, .bool false, .bool false, .bool false, .bool false, .bool false, .bool false, .bool false, .bool false, .bool false, .bool false, .bool false, .bool false, .bool false, .bool false, .bool false, .bool false, .bool false, .bool false, .bool false, .bool false, .bool false, .bool false, .bool false, .bool false, .bool false, .bool false, .bool false, .bool false, .bool false, .bool false, .bool false, .bool false, .bool false, .bool false, .bool false, .bool false, .bool false, .bool false, .bool false, .bool false, .bool false, .bool false, .bool false, .bool false, .bool false, .bool false, .bool false, .bool false, .bool false, .bool false, .bool false, .bool false, .bool false, .bool false, .bool false, .bool false, .bool false, .bool false, .bool false, .bool false, .bool false, .bool false, .bool false, .bool false, .bool false, .bool false, .bool false, .bool false, .bool false, .bool false, .bool false, .bool false, .bool false, .bool false, .bool false, .bool false, .bool false, .bool false, .bool false, .bool false, .bool false, .bool false, .bool false, .bool false, .bool false, .bool false, .bool false, .bool false, .bool false, .bool false, .bool false, .bool false, .bool false, .bool false, .bool false, .bool false, .bool false, .bool false, .bool false, .bool false, .bool false, .bool false, .bool false, .bool false, .bool false, .bool false, .bool false, .bool false, .bool false, .bool false, .bool false, .bool false, .bool false, .bool false, .bool false, .bool false, .bool false, .bool false, .bool false, .bool false, .bool false, .bool false, .bool false, .bool false, .bool false, .bool false, .bool false, .bool false, .bool false, .bool false, .bool false, .bool false, .bool false, .bool false, .bool false, .bool false, .bool false, .bool false, .bool false, .bool false, .bool false, .bool false, .bool false, .bool false, .bool false, .bool false, .bool false, .bool false, .bool false, .bool false, .bool false, .bool false, .bool false, .bool false, .bool false, .bool false, .bool false, .bool false, .bool false, .bool false, .bool false, .bool false, .bool false, .bool false, .bool false, .bool false, .bool false, .bool false, .bool false, .bool false, .bool false, .bool false, .bool false, .bool false, .bool false, .bool false, .bool false, .bool false, .bool false, .bool false, .bool false, .bool false, .bool false, .bool false, .bool false, .bool false, .bool false, .bool false, .bool false, .bool false, .bool false, .bool false, .bool false, .bool false, .bool false, .bool false, .bool false, .bool false, .bool false, .bool false, .bool false, .bool false, .bool false, .bool false, .bool false, .bool false, .bool false, .bool false, .bool false, .bool false, .bool false, .bool false, .bool false, .bool false, .bool false, .bool false, .bool false, .bool false, .bool false, .bool false, .bool false, .bool false, .bool false, .bool false, .bool false, .bool false, .bool false, .bool false, .bool false, .bool false, .bool false, .bool false, .bool false, .bool false, .bool false])) := bd_array Tryz.underlying174 (by kernel_rfl) (by kernel_rfl)
instance : Ag Tryz.prog 175 256 := ⟨by kernel_rfl, ⟨_, Tryz.underlying175, rfl⟩⟩
instance : Sz Tryz.prog 175 256 := ⟨by kernel_rfl⟩
instance : By Tryz.prog 175 256 := ⟨by kernel_rfl⟩
instance : Zr Tryz.prog 175 (.agg #[.bool false, .bool false, .bool false, .bool false, .bool false, .bool false, .bool false, .bool false, .bool false, .bool false, .bool false, .bool false, .bool false, .bool false, .bool false, .bool false, .bool false, .bool false, .bool false, .bool false, .bool false, .bool false, .bool false, .bool false, .bool false, .bool false, .bool false, .bool false, .bool false, .bool false, .bool false, .bool false, .bool false, .bool false, .bool false, .bool false, .bool false, .bool false, .bool false, .bool false, .bool false, .bool false, .bool false, .bool false, .bool false, .bool false, .bool false, .bool false, .bool false, .bool false, .bool false, .bool false, .bool false, .bool false, .bool false, .bool false, .bool false, .bool false, .bool false, .bool false, .bool false, .bool false, .bool false, .bool false, .bool false, .bool false, .bool false, .bool false, .bool false, .bool false, .bool false, .bool false, .bool false, .bool false, .bool false, .bool false, .bool false, .bool false, .bool false, .bool false, .bool false, .bool false, .bool false, .bool false, .bool false, .bool false, .bool false, .bool false, .bool false, .bool false, .bool false, .bool false, .bool false, .bool false, .bool false, .bool false, .bool false, .bool false, .bool false, .bool false, .bool false, .bool false, .bool false, .bool false, .bool false, .bool false, .bool false, .bool false, .bool false, .bool false, .bool false, .bool false, .bool false, .bool false, .bool false, .bool false, .bool false, .bool false, .bool false, .bool false, .bool false, .bool false, .bool false, .bool false, .bool false, .bool false, .bool false, .bool false, .bool false, .bool false, .bool false, .bool false, .bool false, .bool false, .bool false, .bool false, .bool false, .bool false, .bool false, .bool false, .bool false, .bool false, .bool false, .bool false, .bool false, .bool false, .bool false, .bool false, .bool false, .bool false, .bool false, .bool false, .bool false, .bool false, .bool false, .bool false, .bool false, .bool false, .bool false, .bool false, .bool false, .bool false, .bool false, .bool false, .bool false, .bool false, .bool false, .bool false, .bool false, .bool false, .bool false, .bool false, .bool false, .bool false, .bool false, .bool false, .bool false, .bool false, .bool false, .bool false, .bool false, .bool false, .bool false, .bool false, .bool false, .bool false, .bool false, .bool false, .bool false, .bool false, .bool false, .bool false, .bool false, .bool false, .bool false, .bool false, .bool false, .bool false, .bool false, .bool false, .bool false, .bool false, .bool false, .bool false, .bool false, .bool false, .bool false, .bool false, .bool false, .bool false, .bool false, .bool false, .bool false, .bool false, .bool false, .bool false, .bool false, .bool false, .bool false, .bool false, .bool false, .bool false, .bool false, .bool false, .bool false, .bool false, .bool false, .bool false, .bool false, .bool false, .bool false, .bool false, .bool false, .bool false, .bool false, .bool false, .bool false, .bool false, .bool false, .bool false, .bool false, .bool false, .bool false, .bool false, .bool false, .bool false, .bool false, .bool false, .bool false, .bool false, .bool false, .bool false, .bool false, .bool false, .bool false, .bool false]) := ⟨by kernel_rfl⟩
instance : Zc Tryz.prog 175 [.bool false, .bool false, .bool false, .bool false, .bool false, .bool false, .bool false, .bool false, .bool false, .bool false, .bool false, .bool false, .bool false, .bool false, .bool false, .bool false, .bool false, .bool false, .bool false, .bool false, .bool false, .bool false, .bool false, .bool false, .bool false, .bool false, .bool false, .bool false, .bool false, .bool false, .bool false, .bool false, .bool false, .bool false, .bool false, .bool false, .bool false, .bool false, .bool false, .bool false, .bool false, .bool false, .bool false, .bool false, .bool false, .bool false, .bool false, .bool false, .bool false, .bool false, .bool false, .bool false, .bool false, .bool false, .bool false, .bool false, .bool false, .bool false, .bool false, .bool false, .bool false, .bool false, .bool false, .bool false, .bool false, .bool false, .bool false, .bool false, .bool false, .bool false, .bool false, .bool false, .bool false, .bool false, .bool false, .bool false, .bool false, .bool false, .bool false, .bool false, .bool false, .bool false, .bool false, .bool false, .bool false, .bool false, .bool false, .bool false, .bool false, .bool false, .bool false, .bool false, .bool false, .bool false, .bool false, .bool false, .bool false, .bool false, .bool false, .bool false, .bool false, .bool false, .bool false, .bool false, .bool false, .bool false, .bool false, .bool false, .bool false, .bool false, .bool false, .bool false, .bool false, .bool false, .bool false, .bool false, .bool false, .bool false, .bool false, .bool false, .bool false, .bool false, .bool false, .bool false, .bool false, .bool false, .bool false, .bool false, .bool false, .bool false, .bool false, .bool false, .bool false, .bool false, .bool false, .bool false, .bool false, .bool false, .bool false, .bool false, .bool false, .bool false, .bool false, .bool false, .bool false, .bool false, .bool false, .bool false, .bool false, .bool false, .bool false, .bool false, .bool false, .bool false, .bool false, .bool false, .bool false, .bool false, .bool false, .bool false, .bool false, .bool false, .bool false, .bool false, .bool false, .bool false, .bool false, .bool false, .bool false, .bool false, .bool false, .bool false, .bool false, .bool false, .bool false, .bool false, .bool false, .bool false, .bool false, .bool false, .bool false, .bool false, .bool false, .bool false, .bool false, .bool false, .bool false, .bool false, .bool false, .bool false, .bool false, .bool false, .bool false, .bool false, .bool false, .bool false, .bool false, .bool false, .bool false, .bool false, .bool false, .bool false, .bool false, .bool false, .bool false, .bool false, .bool false, .bool false, .bool false, .bool false, .bool false, .bool false, .bool false, .bool false, .bool false, .bool false, .bool false, .bool false, .bool false, .bool false, .bool false, .bool false, .bool false, .bool false, .bool false, .bool false, .bool false, .bool false, .bool false, .bool false, .bool false, .bool false, .bool false, .bool false, .bool false, .bool false, .bool false, .bool false, .bool false, .bool false, .bool false, .bool false, .bool false, .bool false, .bool false, .bool false, .bool false, .bool false, .bool false, .bool false, .bool false, .bool false, .bool false, .bool false, .bool false, .bool false] := ⟨⟨.agg #[.bool false, .bool false, .bool false, .bool false, .bool false, .bool false, .bool false, .bool false, .bool false, .bool false, .bool false, .bool false, .bool false, .bool false, .bool false, .bool false, .bool false, .bool false, .bool false, .bool false, .bool false, .bool false, .bool false, .bool false, .bool false, .bool false, .bool false, .bool false, .bool false, .bool false, .bool false, .bool false, .bool false, .bool false, .bool false, .bool false, .bool false, .bool false, .bool false, .bool false, .bool false, .bool false, .bool false, .bool false, .bool false, .bool false, .bool false, .bool false, .bool false, .bool false, .bool false, .bool false, .bool false, .bool false, .bool false, .bool false, .bool false, .bool false, .bool false, .bool false, .bool false, .bool false, .bool false, .bool false, .bool false, .bool false, .bool false, .bool false, .bool false, .bool false, .bool false, .bool false, .bool false, .bool false, .bool false, .bool false, .bool false, .bool false, .bool false, .bool false, .bool false, .bool false, .bool false, .bool false, .bool false, .bool false, .bool false, .bool false, .bool false, .bool false, .bool false, .bool false, .bool false, .bool false, .bool false, .bool false, .bool false, .bool false, .bool false, .bool false, .bool false, .bool false, .bool false, .bool false, .bool false, .bool false, .bool false, .bool false, .bool false, .bool false, .bool false, .bool false, .bool false, .bool false, .bool false, .bool false, .bool false, .bool false, .bool false, .bool false, .bool false, .bool false, .bool false, .bool false, .bool false, .bool false, .bool false, .bool false, .bool false, .bool false, .bool false, .bool false, .bool false, .bool false, .bool false, .bool false, .bool false, .bool false, .bool false, .bool false, .bool false, .bool false, .bool false, .bool false, .bool false, .bool false, .bool false, .bool false, .bool false, .bool false, .bool false, .bool false, .bool false, .bool false, .bool false, .bool false, .bool false, .bool false, .bool false, .bool false, .bool false, .bool false, .bool false, .bool false, .bool false, .bool false, .bool false, .bool false, .bool false, .bool false, .bool false, .bool false, .bool false, .bool false, .bool false, .bool false, .bool false, .bool false, .bool false, .bool false, .bool false, .bool false, .bool false, .bool false, .bool false, .bool false, .bool false, .bool false, .bool false, .bool false, .bool false, .bool false, .bool false, .bool false, .bool false, .bool false, .bool false, .bool false, .bool false, .bool false, .bool false, .bool false, .bool false, .bool false, .bool false, .bool false, .bool false, .bool false, .bool false, .bool false, .bool false, .bool false, .bool false, .bool false, .bool false, .bool false, .bool false, .bool false, .bool false, .bool false, .bool false, .bool false, .bool false, .bool false, .bool false, .bool false, .bool false, .bool false, .bool false, .bool false, .bool false, .bool false, .bool false, .bool false, .bool false, .bool false, .bool false, .bool false, .bool false, .bool false, .bool false, .bool false, .bool false, .bool false, .bool false, .bool false, .bool false, .bool false, .bool false, .bool false, .bool false, .bool false, .bool false, .bool false, .bool false, .bool false], by kernel_rfl, rfl⟩⟩
instance : Arr Tryz.prog 175 256 4 := ⟨Tryz.underlying175⟩
instance : Bd Tryz.prog 175 (fun i => some (i * 1, 1)) (Value.cells (.agg #[.bool false, .bool false, .bool false, .bool false, .bool false, .bool false, .bool false, .bool false, .bool false, .bool false, .bool false, .bool false, .bool false, .bool false, .bool false, .bool false, .bool false, .bool false, .bool false, .bool false, .bool false, .bool false, .bool false, .bool false, .bool false, .bool false, .bool false, .bool false, .bool false, .bool false, .bool false, .bool false, .bool false, .bool false, .bool false, .bool false, .bool false, .bool false, .bool false, .bool false, .bool false, .bool false, .bool false, .bool false, .bool false, .bool false, .bool false, .bool false, .bool false, .bool false, .bool false, .bool false, .bool false, .bool false, .bool false, .bool false, .bool false, .bool false, .bool false, .bool false, .bool false, .bool false, .bool false, .bool false, .bool false, .bool false, .bool false, .bool false, .bool false, .bool false, .bool false, .bool false, .bool false, .bool false, .bool false, .bool false, .bool false, .bool false, .bool false, .bool false, .bool false, .bool false, .bool false, .bool false, .bool false, .bool false, .bool false, .bool false, .bool false, .bool false, .bool false, .bool false, .bool false, .bool false, .bool false, .bool false, .bool false, .bool false, .bool false, .bool false, .bool false, .bool false, .bool false, .bool false, .bool false, .bool false, .bool false, .bool false, .bool false, .bool false, .bool false, .bool false, .bool false, .bool false, .bool false, .bool false, .bool false, .bool false, .bool false, .bool false, .bool false, .bool false, .bool false, .bool false, .bool false, .bool false, .bool false, .bool false, .bool false, .bool false, .bool false, .bool false, .bool false, .bool false, .bool false, .bool false, .bool false, .bool false, .bool false, .bool false, .bool false, .bool false, .bool false, .bool false, .bool false, .bool false, .bool false, .bool false, .bool false, .bool false, .bool false, .bool false, .bool false, .bool false, .bool false, .bool false, .bool false, .bool false, .bool false, .bool false, .bool false, .bool false, .bool false, .bool false, .bool false, .bool false, .bool false, .bool false, .bool false, .bool false, .bool false, .bool false, .bool false, .bool false, .bool false, .bool false, .bool false, .bool false, .bool false, .bool false, .bool false, .bool false, .bool false, .bool false, .bool false, .bool false, .bool false, .bool false, .bool false, .bool false, .bool false, .bool false, .bool false, .bool false, .bool false, .bool false, .bool false, .bool false, .bool false, .bool false, .bool false, .bool false, .bool false, .bool false, .bool false, .bool false, .bool false, .bool false, .bool false, .bool false, .bool false, .bool false, .bool false, .bool false, .bool false, .bool false, .bool false, .bool false, .bool false, .bool false, .bool false, .bool false, .bool false, .bool false, .bool false, .bool false, .bool false, .bool false, .bool false, .bool false, .bool false, .bool false, .bool false, .bool false, .bool false, .bool false, .bool false, .bool false, .bool false, .bool false, .bool false, .bool false, .bool false, .bool false, .bool false, .bool false, .bool false, .bool false, .bool false, .bool false, .bool false, .bool false, .bool false, .bool false, .bool false, .bool false])) := bd_array Tryz.underlying175 (by kernel_rfl) (by kernel_rfl)
instance : Sc Tryz.prog 177 := ⟨by kernel_rfl, ⟨_, Tryz.underlying177, rfl⟩⟩
instance : Sz Tryz.prog 177 1 := ⟨by kernel_rfl⟩
instance : By Tryz.prog 177 8 := ⟨by kernel_rfl⟩
instance : Zr Tryz.prog 177 (.nilFunc) := ⟨by kernel_rfl⟩
instance : Zc Tryz.prog 177 [.nilFunc] := ⟨⟨.nilFunc, by kernel_rfl, rfl⟩⟩
instance : Sc Tryz.prog 178 := ⟨by kernel_rfl, ⟨_, Tryz.underlying178, rfl⟩⟩
instance : Sz Tryz.prog 178 1 := ⟨by kernel_rfl⟩
instance : By Tryz.prog 178 8 := ⟨by kernel_rfl⟩
instance : Zr Tryz.prog 178 (.nilFunc) := ⟨by kernel_rfl⟩
instance : Zc Tryz.prog 178 [.nilFunc] := ⟨⟨.nilFunc, by kernel_rfl, rfl⟩⟩
instance : Sc Tryz.prog 179 := ⟨by kernel_rfl, ⟨_, Tryz.underlying179, rfl⟩⟩
instance : Sz Tryz.prog 179 1 := ⟨by kernel_rfl⟩
instance : By Tryz.prog 179 8 := ⟨by kernel_rfl⟩
instance : Zr Tryz.prog 179 (.pointer none) := ⟨by kernel_rfl⟩
instance : Zc Tryz.prog 179 [.pointer none] := ⟨⟨.pointer none, by kernel_rfl, rfl⟩⟩
instance : Sc Tryz.prog 180 := ⟨by kernel_rfl, ⟨_, Tryz.underlying180, rfl⟩⟩
instance : Sz Tryz.prog 180 1 := ⟨by kernel_rfl⟩
instance : By Tryz.prog 180 8 := ⟨by kernel_rfl⟩
instance : Zr Tryz.prog 180 (.int .u64 0) := ⟨by kernel_rfl⟩
instance : Zc Tryz.prog 180 [.int .u64 0] := ⟨⟨.int .u64 0, by kernel_rfl, rfl⟩⟩
instance : Ity Tryz.prog 180 .u64 := ⟨Tryz.underlying180⟩
instance : Sc Tryz.prog 181 := ⟨by kernel_rfl, ⟨_, Tryz.underlying181, rfl⟩⟩
instance : Sz Tryz.prog 181 1 := ⟨by kernel_rfl⟩
instance : By Tryz.prog 181 8 := ⟨by kernel_rfl⟩
instance : Zr Tryz.prog 181 (.nilFunc) := ⟨by kernel_rfl⟩
instance : Zc Tryz.prog 181 [.nilFunc] := ⟨⟨.nilFunc, by kernel_rfl, rfl⟩⟩
instance : Sc Tryz.prog 182 := ⟨by kernel_rfl, ⟨_, Tryz.underlying182, rfl⟩⟩
instance : Sz Tryz.prog 182 1 := ⟨by kernel_rfl⟩
instance : By Tryz.prog 182 8 := ⟨by kernel_rfl⟩
instance : Zr Tryz.prog 182 (.nilFunc) := ⟨by kernel_rfl⟩
instance : Zc Tryz.prog 182 [.nilFunc] := ⟨⟨.nilFunc, by kernel_rfl, rfl⟩⟩
instance : Sc Tryz.prog 183 := ⟨by kernel_rfl, ⟨_, Tryz.underlying183, rfl⟩⟩
instance : Sz Tryz.prog 183 1 := ⟨by kernel_rfl⟩
instance : By Tryz.prog 183 8 := ⟨by kernel_rfl⟩
instance : Zr Tryz.prog 183 (.nilFunc) := ⟨by kernel_rfl⟩
instance : Zc Tryz.prog 183 [.nilFunc] := ⟨⟨.nilFunc, by kernel_rfl, rfl⟩⟩
instance : Sc Tryz.prog 184 := ⟨by kernel_rfl, ⟨_, Tryz.underlying184, rfl⟩⟩
instance : Sz Tryz.prog 184 1 := ⟨by kernel_rfl⟩
instance : By Tryz.prog 184 8 := ⟨by kernel_rfl⟩
instance : Zr Tryz.prog 184 (.nilFunc) := ⟨by kernel_rfl⟩
instance : Zc Tryz.prog 184 [.nilFunc] := ⟨⟨.nilFunc, by kernel_rfl, rfl⟩⟩
instance : Sc Tryz.prog 185 := ⟨by kernel_rfl, ⟨_, Tryz.underlying185, rfl⟩⟩
instance : Sz Tryz.prog 185 1 := ⟨by kernel_rfl⟩
instance : By Tryz.prog 185 8 := ⟨by kernel_rfl⟩
instance : Zr Tryz.prog 185 (.nilFunc) := ⟨by kernel_rfl⟩
instance : Zc Tryz.prog 185 [.nilFunc] := ⟨⟨.nilFunc, by kernel_rfl, rfl⟩⟩
instance : Sc Tryz.prog 186 := ⟨by kernel_rfl, ⟨_, Tryz.underlying186, rfl⟩⟩
instance : Sz Tryz.prog 186 1 := ⟨by kernel_rfl⟩
instance : By Tryz.prog 186 8 := ⟨by kernel_rfl⟩
instance : Zr Tryz.prog 186 (.nilFunc) := ⟨by kernel_rfl⟩
instance : Zc Tryz.prog 186 [.nilFunc] := ⟨⟨.nilFunc, by kernel_rfl, rfl⟩⟩
instance : Sc Tryz.prog 187 := ⟨by kernel_rfl, ⟨_, Tryz.underlying187, rfl⟩⟩
instance : Sz Tryz.prog 187 1 := ⟨by kernel_rfl⟩
instance : By Tryz.prog 187 8 := ⟨by kernel_rfl⟩
instance : Zr Tryz.prog 187 (.nilFunc) := ⟨by kernel_rfl⟩
instance : Zc Tryz.prog 187 [.nilFunc] := ⟨⟨.nilFunc, by kernel_rfl, rfl⟩⟩
instance : Sc Tryz.prog 188 := ⟨by kernel_rfl, ⟨_, Tryz.underlying188, rfl⟩⟩
instance : Sz Tryz.prog 188 1 := ⟨by kernel_rfl⟩
instance : By Tryz.prog 188 8 := ⟨by kernel_rfl⟩
instance : Zr Tryz.prog 188 (.nilFunc) := ⟨by kernel_rfl⟩
instance : Zc Tryz.prog 188 [.nilFunc] := ⟨⟨.nilFunc, by kernel_rfl, rfl⟩⟩
instance : Sc Tryz.prog 189 := ⟨by kernel_rfl, ⟨_, Tryz.underlying189, rfl⟩⟩
instance : Sz Tryz.prog 189 1 := ⟨by kernel_rfl⟩
instance : By Tryz.prog 189 8 := ⟨by kernel_rfl⟩
instance : Zr Tryz.prog 189 (.nilFunc) := ⟨by kernel_rfl⟩
instance : Zc Tryz.prog 189 [.nilFunc] := ⟨⟨.nilFunc, by kernel_rfl, rfl⟩⟩
instance : Sc Tryz.prog 190 := ⟨by kernel_rfl, ⟨_, Tryz.underlying190, rfl⟩⟩
instance : Sz Tryz.prog 190 1 := ⟨by kernel_rfl⟩
instance : By Tryz.prog 190 8 := ⟨by kernel_rfl⟩
instance : Zr Tryz.prog 190 (.nilFunc) := ⟨by kernel_rfl⟩
instance : Zc Tryz.prog 190 [.nilFunc] := ⟨⟨.nilFunc, by kernel_rfl, rfl⟩⟩
instance : Sc Tryz.prog 191 := ⟨by kernel_rfl, ⟨_, Tryz.underlying191, rfl⟩⟩
instance : Sz Tryz.prog 191 1 := ⟨by kernel_rfl⟩
instance : By Tryz.prog 191 8 := ⟨by kernel_rfl⟩
instance : Zr Tryz.prog 191 (.nilFunc) := ⟨by kernel_rfl⟩
instance : Zc Tryz.prog 191 [.nilFunc] := ⟨⟨.nilFunc, by kernel_rfl, rfl⟩⟩
instance : Sc Tryz.prog 192 := ⟨by kernel_rfl, ⟨_, Tryz.underlying192, rfl⟩⟩
instance : Sz Tryz.prog 192 1 := ⟨by kernel_rfl⟩
instance : By Tryz.prog 192 8 := ⟨by kernel_rfl⟩
instance : Zr Tryz.prog 192 (.nilFunc) := ⟨by kernel_rfl⟩
instance : Zc Tryz.prog 192 [.nilFunc] := ⟨⟨.nilFunc, by kernel_rfl, rfl⟩⟩
instance : Sc Tryz.prog 193 := ⟨by kernel_rfl, ⟨_, Tryz.underlying193, rfl⟩⟩
instance : Sz Tryz.prog 193 1 := ⟨by kernel_rfl⟩
instance : By Tryz.prog 193 8 := ⟨by kernel_rfl⟩
instance : Zr Tryz.prog 193 (.nilFunc) := ⟨by kernel_rfl⟩
instance : Zc Tryz.prog 193 [.nilFunc] := ⟨⟨.nilFunc, by kernel_rfl, rfl⟩⟩
instance : Sc Tryz.prog 194 := ⟨by kernel_rfl, ⟨_, Tryz.underlying194, rfl⟩⟩
instance : Sz Tryz.prog 194 1 := ⟨by kernel_rfl⟩
instance : By Tryz.prog 194 8 := ⟨by kernel_rfl⟩
instance : Zr Tryz.prog 194 (.pointer none) := ⟨by kernel_rfl⟩
instance : Zc Tryz.prog 194 [.pointer none] := ⟨⟨.pointer none, by kernel_rfl, rfl⟩⟩
instance : Sc Tryz.prog 195 := ⟨by kernel_rfl, ⟨_, Tryz.underlying195, rfl⟩⟩
instance : Sz Tryz.prog 195 1 := ⟨by kernel_rfl⟩
instance : By Tryz.prog 195 8 := ⟨by kernel_rfl⟩
instance : Zr Tryz.prog 195 (.nilFunc) := ⟨by kernel_rfl⟩
instance : Zc Tryz.prog 195 [.nilFunc] := ⟨⟨.nilFunc, by kernel_rfl, rfl⟩⟩
instance : Sc Tryz.prog 196 := ⟨by kernel_rfl, ⟨_, Tryz.underlying196, rfl⟩⟩
instance : Sz Tryz.prog 196 1 := ⟨by kernel_rfl⟩
instance : By Tryz.prog 196 8 := ⟨by kernel_rfl⟩
instance : Zr Tryz.prog 196 (.nilFunc) := ⟨by kernel_rfl⟩
instance : Zc Tryz.prog 196 [.nilFunc] := ⟨⟨.nilFunc, by kernel_rfl, rfl⟩⟩
instance : Sc Tryz.prog 197 := ⟨by kernel_rfl, ⟨_, Tryz.underlying197, rfl⟩⟩
instance : Sz Tryz.prog 197 1 := ⟨by kernel_rfl⟩
instance : By Tryz.prog 197 8 := ⟨by kernel_rfl⟩
instance : Zr Tryz.prog 197 (.nilFunc) := ⟨by kernel_rfl⟩
instance : Zc Tryz.prog 197 [.nilFunc] := ⟨⟨.nilFunc, by kernel_rfl, rfl⟩⟩
instance : Sc Tryz.prog 198 := ⟨by kernel_rfl, ⟨_, Tryz.underlying198, rfl⟩⟩
instance : Sz Tryz.prog 198 1 := ⟨by kernel_rfl⟩
instance : By Tryz.prog 198 8 := ⟨by kernel_rfl⟩
instance : Zr Tryz.prog 198 (.nilFunc) := ⟨by kernel_rfl⟩
instance : Zc Tryz.prog 198 [.nilFunc] := ⟨⟨.nilFunc, by kernel_rfl, rfl⟩⟩
instance : Sc Tryz.prog 199 := ⟨by kernel_rfl, ⟨_, Tryz.underlying199, rfl⟩⟩
instance : Sz Tryz.prog 199 1 := ⟨by kernel_rfl⟩
instance : By Tryz.prog 199 8 := ⟨by kernel_rfl⟩
instance : Zr Tryz.prog 199 (.nilFunc) := ⟨by kernel_rfl⟩
instance : Zc Tryz.prog 199 [.nilFunc] := ⟨⟨.nilFunc, by kernel_rfl, rfl⟩⟩
instance : Sc Tryz.prog 200 := ⟨by kernel_rfl, ⟨_, Tryz.underlying200, rfl⟩⟩
instance : Sz Tryz.prog 200 1 := ⟨by kernel_rfl⟩
instance : By Tryz.prog 200 8 := ⟨by kernel_rfl⟩
instance : Zr Tryz.prog 200 (.nilFunc) := ⟨by kernel_rfl⟩
instance : Zc Tryz.prog 200 [.nilFunc] := ⟨⟨.nilFunc, by kernel_rfl, rfl⟩⟩
instance : Sc Tryz.prog 202 := ⟨by kernel_rfl, ⟨_, Tryz.underlying202, rfl⟩⟩
instance : Sz Tryz.prog 202 1 := ⟨by kernel_rfl⟩
instance : By Tryz.prog 202 8 := ⟨by kernel_rfl⟩
instance : Zr Tryz.prog 202 (.nilFunc) := ⟨by kernel_rfl⟩
instance : Zc Tryz.prog 202 [.nilFunc] := ⟨⟨.nilFunc, by kernel_rfl, rfl⟩⟩
instance : Sc Tryz.prog 203 := ⟨by kernel_rfl, ⟨_, Tryz.underlying203, rfl⟩⟩
instance : Sz Tryz.prog 203 1 := ⟨by kernel_rfl⟩
instance : By Tryz.prog 203 8 := ⟨by kernel_rfl⟩
instance : Zr Tryz.prog 203 (.nilFunc) := ⟨by kernel_rfl⟩
instance : Zc Tryz.prog 203 [.nilFunc] := ⟨⟨.nilFunc, by kernel_rfl, rfl⟩⟩
instance : Sc Tryz.prog 204 := ⟨by kernel_rfl, ⟨_, Tryz.underlying204, rfl⟩⟩
instance : Sz Tryz.prog 204 1 := ⟨by kernel_rfl⟩
instance : By Tryz.prog 204 8 := ⟨by kernel_rfl⟩
instance : Zr Tryz.prog 204 (.nilFunc) := ⟨by kernel_rfl⟩
instance : Zc Tryz.prog 204 [.nilFunc] := ⟨⟨.nilFunc, by kernel_rfl, rfl⟩⟩
instance : Sc Tryz.prog 206 := ⟨by kernel_rfl, ⟨_, Tryz.underlying206, rfl⟩⟩
instance : Sz Tryz.prog 206 1 := ⟨by kernel_rfl⟩
instance : By Tryz.prog 206 8 := ⟨by kernel_rfl⟩
instance : Zr Tryz.prog 206 (.nilFunc) := ⟨by kernel_rfl⟩
instance : Zc Tryz.prog 206 [.nilFunc] := ⟨⟨.nilFunc, by kernel_rfl, rfl⟩⟩
instance : Sc Tryz.prog 207 := ⟨by kernel_rfl, ⟨_, Tryz.underlying207, rfl⟩⟩
instance : Sz Tryz.prog 207 1 := ⟨by kernel_rfl⟩
instance : By Tryz.prog 207 16 := ⟨by kernel_rfl⟩
instance : Zr Tryz.prog 207 (.nilIface) := ⟨by kernel_rfl⟩
instance : Zc Tryz.prog 207 [.nilIface] := ⟨⟨.nilIface, by kernel_rfl, rfl⟩⟩
instance : Sc Tryz.prog 208 := ⟨by kernel_rfl, ⟨_, Tryz.underlying208, rfl⟩⟩
instance : Sz Tryz.prog 208 1 := ⟨by kernel_rfl⟩
instance : By Tryz.prog 208 16 := ⟨by kernel_rfl⟩
instance : Zr Tryz.prog 208 (.nilIface) := ⟨by kernel_rfl⟩
instance : Zc Tryz.prog 208 [.nilIface] := ⟨⟨.nilIface, by kernel_rfl, rfl⟩⟩
instance : Sc Tryz.prog 209 := ⟨by kernel_rfl, ⟨_, Tryz.underlying209, rfl⟩⟩
instance : Sz Tryz.prog 209 1 := ⟨by kernel_rfl⟩
instance : By Tryz.prog 209 8 := ⟨by kernel_rfl⟩
instance : Zr Tryz.prog 209 (.nilFunc) := ⟨by kernel_rfl⟩
instance : Zc Tryz.prog 209 [.nilFunc] := ⟨⟨.nilFunc, by kernel_rfl, rfl⟩⟩
instance : Sc Tryz.prog 210 := ⟨by kernel_rfl, ⟨_, Tryz.underlying210, rfl⟩⟩
instance : Sz Tryz.prog 210 1 := ⟨by kernel_rfl⟩
instance : By Tryz.prog 210 8 := ⟨by kernel_rfl⟩
instance : Zr Tryz.prog 210 (.nilFunc) := ⟨by kernel_rfl⟩
instance : Zc Tryz.prog 210 [.nilFunc] := ⟨⟨.nilFunc, by kernel_rfl, rfl⟩⟩
instance : Sc Tryz.prog 211 := ⟨by kernel_rfl, ⟨_, Tryz.underlying211, rfl⟩⟩
instance : Sz Tryz.prog 211 1 := ⟨by kernel_rfl⟩
instance : By Tryz.prog 211 8 := ⟨by kernel_rfl⟩
instance : Zr Tryz.prog 211 (.nilFunc) := ⟨by kernel_rfl⟩
instance : Zc Tryz.prog 211 [.nilFunc] := ⟨⟨.nilFunc, by kernel_rfl, rfl⟩⟩
instance : Sc Tryz.prog 212 := ⟨by kernel_rfl, ⟨_, Tryz.underlying212, rfl⟩⟩
instance : Sz Tryz.prog 212 1 := ⟨by kernel_rfl⟩
instance : By Tryz.prog 212 8 := ⟨by kernel_rfl⟩
instance : Zr Tryz.prog 212 (.nilFunc) := ⟨by kernel_rfl⟩
instance : Zc Tryz.prog 212 [.nilFunc] := ⟨⟨.nilFunc, by kernel_rfl, rfl⟩⟩
instance : Sc Tryz.prog 214 := ⟨by kernel_rfl, ⟨_, Tryz.underlying214, rfl⟩⟩
instance : Sz Tryz.prog 214 1 := ⟨by kernel_rfl⟩
instance : By Tryz.prog 214 8 := ⟨by kernel_rfl⟩
instance : Zr Tryz.prog 214 (.nilFunc) := ⟨by kernel_rfl⟩
instance : Zc Tryz.prog 214 [.nilFunc] := ⟨⟨.nilFunc, by kernel_rfl, rfl⟩⟩
instance : Sc Tryz.prog 215 := ⟨by kernel_rfl, ⟨_, Tryz.underlying215, rfl⟩⟩
instance : Sz Tryz.prog 215 1 := ⟨by kernel_rfl⟩
instance : By Tryz.prog 215 8 := ⟨by kernel_rfl⟩
instance : Zr Tryz.prog 215 (.nilFunc) := ⟨by kernel_rfl⟩
instance : Zc Tryz.prog 215 [.nilFunc] := ⟨⟨.nilFunc, by kernel_rfl, rfl⟩⟩
instance : Sc Tryz.prog 216 := ⟨by kernel_rfl, ⟨_, Tryz.underlying216, rfl⟩⟩
instance : Sz Tryz.prog 216 1 := ⟨by kernel_rfl⟩
instance : By Tryz.prog 216 8 := ⟨by kernel_rfl⟩
instance : Zr Tryz.prog 216 (.nilFunc) := ⟨by kernel_rfl⟩
instance : Zc Tryz.prog 216 [.nilFunc] := ⟨⟨.nilFunc, by kernel_rfl, rfl⟩⟩
instance : Sc Tryz.prog 217 := ⟨by kernel_rfl, ⟨_, Tryz.underlying217, rfl⟩⟩
instance : Sz Tryz.prog 217 1 := ⟨by kernel_rfl⟩
instance : By Tryz.prog 217 8 := ⟨by kernel_rfl⟩
instance : Zr Tryz.prog 217 (.nilFunc) := ⟨by kernel_rfl⟩
instance : Zc Tryz.prog 217 [.nilFunc] := ⟨⟨.nilFunc, by kernel_rfl, rfl⟩⟩
instance : Sc Tryz.prog 218 := ⟨by kernel_rfl, ⟨_, Tryz.underlying218, rfl⟩⟩
instance : Sz Tryz.prog 218 1 := ⟨by kernel_rfl⟩
instance : By Tryz.prog 218 8 := ⟨by kernel_rfl⟩
instance : Zr Tryz.prog 218 (.nilFunc) := ⟨by kernel_rfl⟩
instance : Zc Tryz.prog 218 [.nilFunc] := ⟨⟨.nilFunc, by kernel_rfl, rfl⟩⟩
instance : Sc Tryz.prog 219 := ⟨by kernel_rfl, ⟨_, Tryz.underlying219, rfl⟩⟩
instance : Sz Tryz.prog 219 1 := ⟨by kernel_rfl⟩
instance : By Tryz.prog 219 8 := ⟨by kernel_rfl⟩
instance : Zr Tryz.prog 219 (.nilFunc) := ⟨by kernel_rfl⟩
instance : Zc Tryz.prog 219 [.nilFunc] := ⟨⟨.nilFunc, by kernel_rfl, rfl⟩⟩
instance : Sc Tryz.prog 220 := ⟨by kernel_rfl, ⟨_, Tryz.underlying220, rfl⟩⟩
instance : Sz Tryz.prog 220 1 := ⟨by kernel_rfl⟩
instance : By Tryz.prog 220 8 := ⟨by kernel_rfl⟩
instance : Zr Tryz.prog 220 (.nilFunc) := ⟨by kernel_rfl⟩
instance : Zc Tryz.prog 220 [.nilFunc] := ⟨⟨.nilFunc, by kernel_rfl, rfl⟩⟩
instance : Sc Tryz.prog 221 := ⟨by kernel_rfl, ⟨_, Tryz.underlying221, rfl⟩⟩
instance : Sz Tryz.prog 221 1 := ⟨by kernel_rfl⟩
instance : By Tryz.prog 221 8 := ⟨by kernel_rfl⟩
instance : Zr Tryz.prog 221 (.nilFunc) := ⟨by kernel_rfl⟩
instance : Zc Tryz.prog 221 [.nilFunc] := ⟨⟨.nilFunc, by kernel_rfl, rfl⟩⟩
instance : Sc Tryz.prog 223 := ⟨by kernel_rfl, ⟨_, Tryz.underlying223, rfl⟩⟩
instance : Sz Tryz.prog 223 1 := ⟨by kernel_rfl⟩
instance : By Tryz.prog 223 8 := ⟨by kernel_rfl⟩
instance : Zr Tryz.prog 223 (.map none) := ⟨by kernel_rfl⟩
instance : Zc Tryz.prog 223 [.map none] := ⟨⟨.map none, by kernel_rfl, rfl⟩⟩
instance : Ag Tryz.prog 224 2 := ⟨by kernel_rfl, ⟨_, Tryz.underlying224, rfl⟩⟩
instance : Sz Tryz.prog 224 2 := ⟨by kernel_rfl⟩
instance : By Tryz.prog 224 24 := ⟨by kernel_rfl⟩
instance : Zr Tryz.prog 224 (.agg #[.string ByteArray.empty, .int .i64 0]) := ⟨by kernel_rfl⟩
instance : Zc Tryz.prog 224 [.string ByteArray.empty, .int .i64 0] := ⟨⟨.agg #[.string ByteArray.empty, .int .i64 0], by kernel_rfl, rfl⟩⟩
instance : Fi Tryz.prog 224 0 0 9 := ⟨⟨_, _, Tryz.underlying224, rfl, rfl, rfl⟩, ⟨1, by kernel_rfl, by decide⟩⟩
instance : Fi Tryz.prog 224 1 1 3 := ⟨⟨_, _, Tryz.underlying224, rfl, rfl, rfl⟩, ⟨1, by kernel_rfl, by decide⟩⟩
instance : Bd Tryz.prog 224 (fun i : Nat => ([(0, 1), (1, 1)] : List (Nat × Nat))[i]?) (Value.cells (.agg #[.string ByteArray.empty, .int .i64 0])) := bd_struct Tryz.underlying224 (by kernel_rfl) (by kernel_rfl)
instance : Ag Tryz.prog 225 2 := ⟨by kernel_rfl, ⟨_, Tryz.underlying225, rfl⟩⟩
instance : Sz Tryz.prog 225 2 := ⟨by kernel_rfl⟩
instance : By Tryz.prog 225 24 := ⟨by kernel_rfl⟩
instance : Zr Tryz.prog 225 (.agg #[.string ByteArray.empty, .int .i64 0]) := ⟨by kernel_rfl⟩
instance : Zc Tryz.prog 225 [.string ByteArray.empty, .int .i64 0] := ⟨⟨.agg #[.string ByteArray.empty, .int .i64 0], by kernel_rfl, rfl⟩⟩
instance : Fi Tryz.prog 225 0 0 9 := ⟨⟨_, _, Tryz.underlying225, rfl, rfl, rfl⟩, ⟨1, by kernel_rfl, by decide⟩⟩
instance : Fi Tryz.prog 225 1 1 3 := ⟨⟨_, _, Tryz.underlying225, rfl, rfl, rfl⟩, ⟨1, by kernel_rfl, by decide⟩⟩
instance : Bd Tryz.prog 225 (fun i : Nat => ([(0, 1), (1, 1)] : List (Nat × Nat))[i]?) (Value.cells (.agg #[.string ByteArray.empty, .int .i64 0])) := bd_struct Tryz.underlying225 (by kernel_rfl) (by kernel_rfl)
instance : Ag Tryz.prog 226 2 := ⟨by kernel_rfl, ⟨_, Tryz.underlying226, rfl⟩⟩
instance : Sz Tryz.prog 226 2 := ⟨by kernel_rfl⟩
instance : By Tryz.prog 226 24 := ⟨by kernel_rfl⟩
instance : Zr Tryz.prog 226 (.agg #[.string ByteArray.empty, .int .i64 0]) := ⟨by kernel_rfl⟩
instance : Zc Tryz.prog 226 [.string ByteArray.empty, .int .i64 0] := ⟨⟨.agg #[.string ByteArray.empty, .int .i64 0], by kernel_rfl, rfl⟩⟩
instance : Fi Tryz.prog 226 0 0 225 := ⟨⟨_, _, Tryz.underlying226, rfl, rfl, rfl⟩, ⟨2, by kernel_rfl, by decide⟩⟩
instance : Bd Tryz.prog 226 (fun i : Nat => ([(0, 2)] : List (Nat × Nat))[i]?) (Value.cells (.agg #[.string ByteArray.empty, .int .i64 0])) := bd_struct Tryz.underlying226 (by kernel_rfl) (by kernel_rfl)
instance : Ag Tryz.prog 227 2 := ⟨by kernel_rfl, ⟨_, Tryz.underlying227, rfl⟩⟩
instance : Sz Tryz.prog 227 2 := ⟨by kernel_rfl⟩
instance : By Tryz.prog 227 24 := ⟨by kernel_rfl⟩
instance : Zr Tryz.prog 227 (.agg #[.string ByteArray.empty, .int .i64 0]) := ⟨by kernel_rfl⟩
instance : Zc Tryz.prog 227 [.string ByteArray.empty, .int .i64 0] := ⟨⟨.agg #[.string ByteArray.empty, .int .i64 0], by kernel_rfl, rfl⟩⟩
instance : Fi Tryz.prog 227 0 0 225 := ⟨⟨_, _, Tryz.underlying227, rfl, rfl, rfl⟩, ⟨2, by kernel_rfl, by decide⟩⟩
instance : Bd Tryz.prog 227 (fun i : Nat => ([(0, 2)] : List (Nat × Nat))[i]?) (Value.cells (.agg #[.string ByteArray.empty, .int .i64 0])) := bd_struct Tryz.underlying227 (by kernel_rfl) (by kernel_rfl)
instance : Sc Tryz.prog 229 := ⟨by kernel_rfl, ⟨_, Tryz.underlying229, rfl⟩⟩
instance : Sz Tryz.prog 229 1 := ⟨by kernel_rfl⟩
instance : By Tryz.prog 229 8 := ⟨by kernel_rfl⟩
instance : Zr Tryz.prog 229 (.nilFunc) := ⟨by kernel_rfl⟩
instance : Zc Tryz.prog 229 [.nilFunc] := ⟨⟨.nilFunc, by kernel_rfl, rfl⟩⟩
instance : Sc Tryz.prog 230 := ⟨by kernel_rfl, ⟨_, Tryz.underlying230, rfl⟩⟩
instance : Sz Tryz.prog 230 1 := ⟨by kernel_rfl⟩
instance : By Tryz.prog 230 8 := ⟨by kernel_rfl⟩
instance : Zr Tryz.prog 230 (.map none) := ⟨by kernel_rfl⟩
instance : Zc Tryz.prog 230 [.map none] := ⟨⟨.map none, by kernel_rfl, rfl⟩⟩
instance : Sc Tryz.prog 232 := ⟨by kernel_rfl, ⟨_, Tryz.underlying232, rfl⟩⟩
instance : Sz Tryz.prog 232 1 := ⟨by kernel_rfl⟩
instance : By Tryz.prog 232 8 := ⟨by kernel_rfl⟩
instance : Zr Tryz.prog 232 (.nilFunc) := ⟨by kernel_rfl⟩
instance : Zc Tryz.prog 232 [.nilFunc] := ⟨⟨.nilFunc, by kernel_rfl, rfl⟩⟩
instance : Sc Tryz.prog 233 := ⟨by kernel_rfl, ⟨_, Tryz.underlying233, rfl⟩⟩
instance : Sz Tryz.prog 233 1 := ⟨by kernel_rfl⟩
instance : By Tryz.prog 233 8 := ⟨by kernel_rfl⟩
instance : Zr Tryz.prog 233 (.nilFunc) := ⟨by kernel_rfl⟩
instance : Zc Tryz.prog 233 [.nilFunc] := ⟨⟨.nilFunc, by kernel_rfl, rfl⟩⟩
instance : Sc Tryz.prog 234 := ⟨by kernel_rfl, ⟨_, Tryz.underlying234, rfl⟩⟩
instance : Sz Tryz.prog 234 1 := ⟨by kernel_rfl⟩
instance : By Tryz.prog 234 8 := ⟨by kernel_rfl⟩
instance : Zr Tryz.prog 234 (.nilFunc) := ⟨by kernel_rfl⟩
instance : Zc Tryz.prog 234 [.nilFunc] := ⟨⟨.nilFunc, by kernel_rfl, rfl⟩⟩
instance : Sc Tryz.prog 235 := ⟨by kernel_rfl, ⟨_, Tryz.underlying235, rfl⟩⟩
instance : Sz Tryz.prog 235 1 := ⟨by kernel_rfl⟩
instance : By Tryz.prog 235 8 := ⟨by kernel_rfl⟩
instance : Zr Tryz.prog 235 (.nilFunc) := ⟨by kernel_rfl⟩
instance : Zc Tryz.prog 235 [.nilFunc] := ⟨⟨.nilFunc, by kernel_rfl, rfl⟩⟩
instance : Sc Tryz.prog 236 := ⟨by kernel_rfl, ⟨_, Tryz.underlying236, rfl⟩⟩
instance : Sz Tryz.prog 236 1 := ⟨by kernel_rfl⟩
instance : By Tryz.prog 236 8 := ⟨by kernel_rfl⟩
instance : Zr Tryz.prog 236 (.nilFunc) := ⟨by kernel_rfl⟩
instance : Zc Tryz.prog 236 [.nilFunc] := ⟨⟨.nilFunc, by kernel_rfl, rfl⟩⟩
instance : Sc Tryz.prog 237 := ⟨by kernel_rfl, ⟨_, Tryz.underlying237, rfl⟩⟩
instance : Sz Tryz.prog 237 1 := ⟨by kernel_rfl⟩
instance : By Tryz.prog 237 8 := ⟨by kernel_rfl⟩
instance : Zr Tryz.prog 237 (.nilFunc) := ⟨by kernel_rfl⟩
instance : Zc Tryz.prog 237 [.nilFunc] := ⟨⟨.nilFunc, by kernel_rfl, rfl⟩⟩
instance : Sc Tryz.prog 239 := ⟨by kernel_rfl, ⟨_, Tryz.underlying239, rfl⟩⟩
instance : Sz Tryz.prog 239 1 := ⟨by kernel_rfl⟩
instance : By Tryz.prog 239 8 := ⟨by kernel_rfl⟩
instance : Zr Tryz.prog 239 (.nilFunc) := ⟨by kernel_rfl⟩
instance : Zc Tryz.prog 239 [.nilFunc] := ⟨⟨.nilFunc, by kernel_rfl, rfl⟩⟩
instance : Sc Tryz.prog 240 := ⟨by kernel_rfl, ⟨_, Tryz.underlying240, rfl⟩⟩
instance : Sz Tryz.prog 240 1 := ⟨by kernel_rfl⟩
instance : By Tryz.prog 240 8 := ⟨by kernel_rfl⟩
instance : Zr Tryz.prog 240 (.nilFunc) := ⟨by kernel_rfl⟩
instance : Zc Tryz.prog 240 [.nilFunc] := ⟨⟨.nilFunc, by kernel_rfl, rfl⟩⟩
instance : Sc Tryz.prog 241 := ⟨by kernel_rfl, ⟨_, Tryz.underlying241, rfl⟩⟩
instance : Sz Tryz.prog 241 1 := ⟨by kernel_rfl⟩
instance : By Tryz.prog 241 8 := ⟨by kernel_rfl⟩
instance : Zr Tryz.prog 241 (.nilFunc) := ⟨by kernel_rfl⟩
instance : Zc Tryz.prog 241 [.nilFunc] := ⟨⟨.nilFunc, by kernel_rfl, rfl⟩⟩
instance : Sc Tryz.prog 242 := ⟨by kernel_rfl, ⟨_, Tryz.underlying242, rfl⟩⟩
instance : Sz Tryz.prog 242 1 := ⟨by kernel_rfl⟩
instance : By Tryz.prog 242 8 := ⟨by kernel_rfl⟩
instance : Zr Tryz.prog 242 (.nilFunc) := ⟨by kernel_rfl⟩
instance : Zc Tryz.prog 242 [.nilFunc] := ⟨⟨.nilFunc, by kernel_rfl, rfl⟩⟩
instance : Sc Tryz.prog 243 := ⟨by kernel_rfl, ⟨_, Tryz.underlying243, rfl⟩⟩
instance : Sz Tryz.prog 243 1 := ⟨by kernel_rfl⟩
instance : By Tryz.prog 243 8 := ⟨by kernel_rfl⟩
instance : Zr Tryz.prog 243 (.nilFunc) := ⟨by kernel_rfl⟩
instance : Zc Tryz.prog 243 [.nilFunc] := ⟨⟨.nilFunc, by kernel_rfl, rfl⟩⟩
instance : Ag Tryz.prog 244 1 := ⟨by kernel_rfl, ⟨_, Tryz.underlying244, rfl⟩⟩
instance : Sz Tryz.prog 244 1 := ⟨by kernel_rfl⟩
instance : By Tryz.prog 244 8 := ⟨by kernel_rfl⟩
instance : Zr Tryz.prog 244 (.agg #[.pointer none]) := ⟨by kernel_rfl⟩
instance : Zc Tryz.prog 244 [.pointer none] := ⟨⟨.agg #[.pointer none], by kernel_rfl, rfl⟩⟩
instance : Fi Tryz.prog 244 0 0 17 := ⟨⟨_, _, Tryz.underlying244, rfl, rfl, rfl⟩, ⟨1, by kernel_rfl, by decide⟩⟩
instance : Bd Tryz.prog 244 (fun i : Nat => ([(0, 1)] : List (Nat × Nat))[i]?) (Value.cells (.agg #[.pointer none])) := bd_struct Tryz.underlying244 (by kernel_rfl) (by kernel_rfl)
instance : Ag Tryz.prog 245 1 := ⟨by kernel_rfl, ⟨_, Tryz.underlying245, rfl⟩⟩
instance : Sz Tryz.prog 245 1 := ⟨by kernel_rfl⟩
instance : By Tryz.prog 245 8 := ⟨by kernel_rfl⟩
instance : Zr Tryz.prog 245 (.agg #[.pointer none]) := ⟨by kernel_rfl⟩
instance : Zc Tryz.prog 245 [.pointer none] := ⟨⟨.agg #[.pointer none], by kernel_rfl, rfl⟩⟩
instance : Fi Tryz.prog 245 0 0 17 := ⟨⟨_, _, Tryz.underlying245, rfl, rfl, rfl⟩, ⟨1, by kernel_rfl, by decide⟩⟩
instance : Bd Tryz.prog 245 (fun i : Nat => ([(0, 1)] : List (Nat × Nat))[i]?) (Value.cells (.agg #[.pointer none])) := bd_struct Tryz.underlying245 (by kernel_rfl) (by kernel_rfl)
instance : Sc Tryz.prog 246 := ⟨by kernel_rfl, ⟨_, Tryz.underlying246, rfl⟩⟩
instance : Sz Tryz.prog 246 1 := ⟨by kernel_rfl⟩
instance : By Tryz.prog 246 8 := ⟨by kernel_rfl⟩
instance : Zr Tryz.prog 246 (.pointer none) := ⟨by kernel_rfl⟩
instance : Zc Tryz.prog 246 [.pointer none] := ⟨⟨.pointer none, by kernel_rfl, rfl⟩⟩
instance : Sc Tryz.prog 247 := ⟨by kernel_rfl, ⟨_, Tryz.underlying247, rfl⟩⟩
instance : Sz Tryz.prog 247 1 := ⟨by kernel_rfl⟩
instance : By Tryz.prog 247 16 := ⟨by kernel_rfl⟩
instance : Zr Tryz.prog 247 (.nilIface) := ⟨by kernel_rfl⟩
instance : Zc Tryz.prog 247 [.nilIface] := ⟨⟨.nilIface, by kernel_rfl, rfl⟩⟩
instance : Sc Tryz.prog 249 := ⟨by kernel_rfl, ⟨_, Tryz.underlying249, rfl⟩⟩
instance : Sz Tryz.prog 249 1 := ⟨by kernel_rfl⟩
instance : By Tryz.prog 249 8 := ⟨by kernel_rfl⟩
instance : Zr Tryz.prog 249 (.nilFunc) := ⟨by kernel_rfl⟩
instance : Zc Tryz.prog 249 [.nilFunc] := ⟨⟨.nilFunc, by kernel_rfl, rfl⟩⟩
instance : Sc Tryz.prog 250 := ⟨by kernel_rfl, ⟨_, Tryz.underlying250, rfl⟩⟩
instance : Sz Tryz.prog 250 1 := ⟨by kernel_rfl⟩
instance : By Tryz.prog 250 16 := ⟨by kernel_rfl⟩
instance : Zr Tryz.prog 250 (.nilIface) := ⟨by kernel_rfl⟩
instance : Zc Tryz.prog 250 [.nilIface] := ⟨⟨.nilIface, by kernel_rfl, rfl⟩⟩
instance : Sc Tryz.prog 251 := ⟨by kernel_rfl, ⟨_, Tryz.underlying251, rfl⟩⟩
instance : Sz Tryz.prog 251 1 := ⟨by kernel_rfl⟩
instance : By Tryz.prog 251 8 := ⟨by kernel_rfl⟩
instance : Zr Tryz.prog 251 (.nilFunc) := ⟨by kernel_rfl⟩
instance : Zc Tryz.prog 251 [.nilFunc] := ⟨⟨.nilFunc, by kernel_rfl, rfl⟩⟩
instance : Sc Tryz.prog 252 := ⟨by kernel_rfl, ⟨_, Tryz.underlying252, rfl⟩⟩
instance : Sz Tryz.prog 252 1 := ⟨by kernel_rfl⟩
instance : By Tryz.prog 252 16 := ⟨by kernel_rfl⟩
instance : Zr Tryz.prog 252 (.nilIface) := ⟨by kernel_rfl⟩
instance : Zc Tryz.prog 252 [.nilIface] := ⟨⟨.nilIface, by kernel_rfl, rfl⟩⟩
instance : Sc Tryz.prog 253 := ⟨by kernel_rfl, ⟨_, Tryz.underlying253, rfl⟩⟩
instance : Sz Tryz.prog 253 1 := ⟨by kernel_rfl⟩
instance : By Tryz.prog 253 24 := ⟨by kernel_rfl⟩
instance : Zr Tryz.prog 253 (.slice none 0 0) := ⟨by kernel_rfl⟩
instance : Zc Tryz.prog 253 [.slice none 0 0] := ⟨⟨.slice none 0 0, by kernel_rfl, rfl⟩⟩
instance : Sli Tryz.prog 253 98 := ⟨Tryz.underlying253⟩
instance : Sc Tryz.prog 254 := ⟨by kernel_rfl, ⟨_, Tryz.underlying254, rfl⟩⟩
instance : Sz Tryz.prog 254 1 := ⟨by kernel_rfl⟩
instance : By Tryz.prog 254 8 := ⟨by kernel_rfl⟩
instance : Zr Tryz.prog 254 (.nilFunc) := ⟨by kernel_rfl⟩
instance : Zc Tryz.prog 254 [.nilFunc] := ⟨⟨.nilFunc, by kernel_rfl, rfl⟩⟩
instance : Sc Tryz.prog 255 := ⟨by kernel_rfl, ⟨_, Tryz.underlying255, rfl⟩⟩
instance : Sz Tryz.prog 255 1 := ⟨by kernel_rfl⟩
instance : By Tryz.prog 255 8 := ⟨by kernel_rfl⟩
instance : Zr Tryz.prog 255 (.nilFunc) := ⟨by kernel_rfl⟩
instance : Zc Tryz.prog 255 [.nilFunc] := ⟨⟨.nilFunc, by kernel_rfl, rfl⟩⟩
instance : Sc Tryz.prog 256 := ⟨by kernel_rfl, ⟨_, Tryz.underlying256, rfl⟩⟩
instance : Sz Tryz.prog 256 1 := ⟨by kernel_rfl⟩
instance : By Tryz.prog 256 8 := ⟨by kernel_rfl⟩
instance : Zr Tryz.prog 256 (.nilFunc) := ⟨by kernel_rfl⟩
instance : Zc Tryz.prog 256 [.nilFunc] := ⟨⟨.nilFunc, by kernel_rfl, rfl⟩⟩
instance : Sc Tryz.prog 257 := ⟨by kernel_rfl, ⟨_, Tryz.underlying257, rfl⟩⟩
instance : Sz Tryz.prog 257 1 := ⟨by kernel_rfl⟩
instance : By Tryz.prog 257 8 := ⟨by kernel_rfl⟩
instance : Zr Tryz.prog 257 (.int .i64 0) := ⟨by kernel_rfl⟩
instance : Zc Tryz.prog 257 [.int .i64 0] := ⟨⟨.int .i64 0, by kernel_rfl, rfl⟩⟩
instance : Ity Tryz.prog 257 .i64 := ⟨Tryz.underlying257⟩
instance : Sc Tryz.prog 259 := ⟨by kernel_rfl, ⟨_, Tryz.underlying259, rfl⟩⟩
instance : Sz Tryz.prog 259 1 := ⟨by kernel_rfl⟩
instance : By Tryz.prog 259 8 := ⟨by kernel_rfl⟩
instance : Zr Tryz.prog 259 (.nilFunc) := ⟨by kernel_rfl⟩
instance : Zc Tryz.prog 259 [.nilFunc] := ⟨⟨.nilFunc, by kernel_rfl, rfl⟩⟩
instance : Sc Tryz.prog 260 := ⟨by kernel_rfl, ⟨_, Tryz.underlying260, rfl⟩⟩
instance : Sz Tryz.prog 260 1 := ⟨by kernel_rfl⟩
instance : By Tryz.prog 260 8 := ⟨by kernel_rfl⟩
instance : Zr Tryz.prog 260 (.nilFunc) := ⟨by kernel_rfl⟩
instance : Zc Tryz.prog 260 [.nilFunc] := ⟨⟨.nilFunc, by kernel_rfl, rfl⟩⟩
instance : Sc Tryz.prog 261 := ⟨by kernel_rfl, ⟨_, Tryz.underlying261, rfl⟩⟩
instance : Sz Tryz.prog 261 1 := ⟨by kernel_rfl⟩
instance : By Tryz.prog 261 8 := ⟨by kernel_rfl⟩
instance : Zr Tryz.prog 261 (.nilFunc) := ⟨by kernel_rfl⟩
instance : Zc Tryz.prog 261 [.nilFunc] := ⟨⟨.nilFunc, by kernel_rfl, rfl⟩⟩
instance : Sc Tryz.prog 263 := ⟨by kernel_rfl, ⟨_, Tryz.underlying263, rfl⟩⟩
instance : Sz Tryz.prog 263 1 := ⟨by kernel_rfl⟩
instance : By Tryz.prog 263 8 := ⟨by kernel_rfl⟩
instance : Zr Tryz.prog 263 (.nilFunc) := ⟨by kernel_rfl⟩
instance : Zc Tryz.prog 263 [.nilFunc] := ⟨⟨.nilFunc, by kernel_rfl, rfl⟩⟩
instance : Sc Tryz.prog 264 := ⟨by kernel_rfl, ⟨_, Tryz.underlying264, rfl⟩⟩
instance : Sz Tryz.prog 264 1 := ⟨by kernel_rfl⟩
instance : By Tryz.prog 264 8 := ⟨by kernel_rfl⟩
instance : Zr Tryz.prog 264 (.nilFunc) := ⟨by kernel_rfl⟩
instance : Zc Tryz.prog 264 [.nilFunc] := ⟨⟨.nilFunc, by kernel_rfl, rfl⟩⟩
instance : Sc Tryz.prog 265 := ⟨by kernel_rfl, ⟨_, Tryz.underlying265, rfl⟩⟩
instance : Sz Tryz.prog 265 1 := ⟨by kernel_rfl⟩
instance : By Tryz.prog 265 8 := ⟨by kernel_rfl⟩
instance : Zr Tryz.prog 265 (.nilFunc) := ⟨by kernel_rfl⟩
instance : Zc Tryz.prog 265 [.nilFunc] := ⟨⟨.nilFunc, by kernel_rfl, rfl⟩⟩
instance : Sc Tryz.prog 266 := ⟨by kernel_rfl, ⟨_, Tryz.underlying266, rfl⟩⟩
instance : Sz Tryz.prog 266 1 := ⟨by kernel_rfl⟩
instance : By Tryz.prog 266 8 := ⟨by kernel_rfl⟩
instance : Zr Tryz.prog 266 (.nilFunc) := ⟨by kernel_rfl⟩
instance : Zc Tryz.prog 266 [.nilFunc] := ⟨⟨.nilFunc, by kernel_rfl, rfl⟩⟩
instance : Sc Tryz.prog 267 := ⟨by kernel_rfl, ⟨_, Tryz.underlying267, rfl⟩⟩
instance : Sz Tryz.prog 267 1 := ⟨by kernel_rfl⟩
instance : By Tryz.prog 267 8 := ⟨by kernel_rfl⟩
instance : Zr Tryz.prog 267 (.nilFunc) := ⟨by kernel_rfl⟩
instance : Zc Tryz.prog 267 [.nilFunc] := ⟨⟨.nilFunc, by kernel_rfl, rfl⟩⟩
instance : Sc Tryz.prog 268 := ⟨by kernel_rfl, ⟨_, Tryz.underlying268, rfl⟩⟩
instance : Sz Tryz.prog 268 1 := ⟨by kernel_rfl⟩
instance : By Tryz.prog 268 8 := ⟨by kernel_rfl⟩
instance : Zr Tryz.prog 268 (.pointer none) := ⟨by kernel_rfl⟩
instance : Zc Tryz.prog 268 [.pointer none] := ⟨⟨.pointer none, by kernel_rfl, rfl⟩⟩
instance : Sc Tryz.prog 269 := ⟨by kernel_rfl, ⟨_, Tryz.underlying269, rfl⟩⟩
instance : Sz Tryz.prog 269 1 := ⟨by kernel_rfl⟩
instance : By Tryz.prog 269 8 := ⟨by kernel_rfl⟩
instance : Zr Tryz.prog 269 (.pointer none) := ⟨by kernel_rfl⟩
instance : Zc Tryz.prog 269 [.pointer none] := ⟨⟨.pointer none, by kernel_rfl, rfl⟩⟩
instance : Sc Tryz.prog 270 := ⟨by kernel_rfl, ⟨_, Tryz.underlying270, rfl⟩⟩
instance : Sz Tryz.prog 270 1 := ⟨by kernel_rfl⟩
instance : By Tryz.prog 270 24 := ⟨by kernel_rfl⟩
instance : Zr Tryz.prog 270 (.slice none 0 0) := ⟨by kernel_rfl⟩
instance : Zc Tryz.prog 270 [.slice none 0 0] := ⟨⟨.slice none 0 0, by kernel_rfl, rfl⟩⟩
instance : Sli Tryz.prog 270 269 := ⟨Tryz.underlying270⟩
instance : Sc Tryz.prog 271 := ⟨by kernel_rfl, ⟨_, Tryz.underlying271, rfl⟩⟩
instance : Sz Tryz.prog 271 1 := ⟨by kernel_rfl⟩
instance : By Tryz.prog 271 8 := ⟨by kernel_rfl⟩
instance : Zr Tryz.prog 271 (.nilFunc) := ⟨by kernel_rfl⟩
instance : Zc Tryz.prog 271 [.nilFunc] := ⟨⟨.nilFunc, by kernel_rfl, rfl⟩⟩
instance : Sc Tryz.prog 272 := ⟨by kernel_rfl, ⟨_, Tryz.underlying272, rfl⟩⟩
instance : Sz Tryz.prog 272 1 := ⟨by kernel_rfl⟩
instance : By Tryz.prog 272 8 := ⟨by kernel_rfl⟩
instance : Zr Tryz.prog 272 (.nilFunc) := ⟨by kernel_rfl⟩
instance : Zc Tryz.prog 272 [.nilFunc] := ⟨⟨.nilFunc, by kernel_rfl, rfl⟩⟩
instance : Sc Tryz.prog 274 := ⟨by kernel_rfl, ⟨_, Tryz.underlying274, rfl⟩⟩
instance : Sz Tryz.prog 274 1 := ⟨by kernel_rfl⟩
instance : By Tryz.prog 274 8 := ⟨by kernel_rfl⟩
instance : Zr Tryz.prog 274 (.nilFunc) := ⟨by kernel_rfl⟩
instance : Zc Tryz.prog 274 [.nilFunc] := ⟨⟨.nilFunc, by kernel_rfl, rfl⟩⟩
instance : Sc Tryz.prog 276 := ⟨by kernel_rfl, ⟨_, Tryz.underlying276, rfl⟩⟩
instance : Sz Tryz.prog 276 1 := ⟨by kernel_rfl⟩
instance : By Tryz.prog 276 8 := ⟨by kernel_rfl⟩
instance : Zr Tryz.prog 276 (.nilFunc) := ⟨by kernel_rfl⟩
instance : Zc Tryz.prog 276 [.nilFunc] := ⟨⟨.nilFunc, by kernel_rfl, rfl⟩⟩
instance : Ag Tryz.prog 277 8 := ⟨by kernel_rfl, ⟨_, Tryz.underlying277, rfl⟩⟩
instance : Sz Tryz.prog 277 8 := ⟨by kernel_rfl⟩
instance : By Tryz.prog 277 32 := ⟨by kernel_rfl⟩
instance : Zr Tryz.prog 277 (.agg #[.int .u32 0, .int .u32 0, .int .u32 0, .int .u32 0, .int .u32 0, .int .u32 0, .int .u32 0, .int .u32 0]) := ⟨by kernel_rfl⟩
instance : Zc Tryz.prog 277 [.int .u32 0, .int .u32 0, .int .u32 0, .int .u32 0, .int .u32 0, .int .u32 0, .int .u32 0, .int .u32 0] := ⟨⟨.agg #[.int .u32 0, .int .u32 0, .int .u32 0, .int .u32 0, .int .u32 0, .int .u32 0, .int .u32 0, .int .u32 0], by kernel_rfl, rfl⟩⟩
instance : Arr Tryz.prog 277 8 126 := ⟨Tryz.underlying277⟩
instance : Bd Tryz.prog 277 (fun i => some (i * 1, 1)) (Value.cells (.agg #[.int .u32 0, .int .u32 0, .int .u32 0, .int .u32 0, .int .u32 0, .int .u32 0, .int .u32 0, .int .u32 0])) := bd_array Tryz.underlying277 (by kernel_rfl) (by kernel_rfl)
instance : Ag Tryz.prog 278 8 := ⟨by kernel_rfl, ⟨_, Tryz.underlying278, rfl⟩⟩
instance : Sz Tryz.prog 278 8 := ⟨by kernel_rfl⟩
instance : By Tryz.prog 278 32 := ⟨by kernel_rfl⟩
instance : Zr Tryz.prog 278 (.agg #[.int .u32 0, .int .u32 0, .int .u32 0, .int .u32 0, .int .u32 0, .int .u32 0, .int .u32 0, .int .u32 0]) := ⟨by kernel_rfl⟩
instance : Zc Tryz.prog 278 [.int .u32 0, .int .u32 0, .int .u32 0, .int .u32 0, .int .u32 0, .int .u32 0, .int .u32 0, .int .u32 0] := ⟨⟨.agg #[.int .u32 0, .int .u32 0, .int .u32 0, .int .u32 0, .int .u32 0, .int .u32 0, .int .u32 0, .int .u32 0], by kernel_rfl, rfl⟩⟩
instance : Arr Tryz.prog 278 8 126 := ⟨Tryz.underlying278⟩
instance : Bd Tryz.prog 278 (fun i => some (i * 1, 1)) (Value.cells (.agg #[.int .u32 0, .int .u32 0, .int .u32 0, .int .u32 0, .int .u32 0, .int .u32 0, .int .u32 0, .int .u32 0])) := bd_array Tryz.underlying278 (by kernel_rfl) (by kernel_rfl)
instance : Sc Tryz.prog 279 := ⟨by kernel_rfl, ⟨_, Tryz.underlying279, rfl⟩⟩
instance : Sz Tryz.prog 279 1 := ⟨by kernel_rfl⟩
instance : By Tryz.prog 279 8 := ⟨by kernel_rfl⟩
instance : Zr Tryz.prog 279 (.nilFunc) := ⟨by kernel_rfl⟩
instance : Zc Tryz.prog 279 [.nilFunc] := ⟨⟨.nilFunc, by kernel_rfl, rfl⟩⟩
instance : Sc Tryz.prog 280 := ⟨by kernel_rfl, ⟨_, Tryz.underlying280, rfl⟩⟩
instance : Sz Tryz.prog 280 1 := ⟨by kernel_rfl⟩
instance : By Tryz.prog 280 8 := ⟨by kernel_rfl⟩
instance : Zr Tryz.prog 280 (.nilFunc) := ⟨by kernel_rfl⟩
instance : Zc Tryz.prog 280 [.nilFunc] := ⟨⟨.nilFunc, by kernel_rfl, rfl⟩⟩
instance : Sc Tryz.prog 281 := ⟨by kernel_rfl, ⟨_, Tryz.underlying281, rfl⟩⟩
instance : Sz Tryz.prog 281 1 := ⟨by kernel_rfl⟩
instance : By Tryz.prog 281 8 := ⟨by kernel_rfl⟩
instance : Zr Tryz.prog 281 (.nilFunc) := ⟨by kernel_rfl⟩
instance : Zc Tryz.prog 281 [.nilFunc] := ⟨⟨.nilFunc, by kernel_rfl, rfl⟩⟩
instance : Ag Tryz.prog 282 256 := ⟨by kernel_rfl, ⟨_, Tryz.underlying282, rfl⟩⟩
instance : Sz Tryz.prog 282 256 := ⟨by kernel_rfl⟩
instance : By Tryz.prog 282 256 := ⟨by kernel_rfl⟩
instance : Zr Tryz.prog 282 (.agg #[.int .u8 0, .int .u8 0, .int .u8 0, .int .u8 0, .int .u8 0, .int .u8 0, .int .u8 0, .int .u8 0, .int .u8 0, .int .u8 0, .int .u8 0, .int .u8 0, .int .u8 0, .int .u8 0, .int .u8 0, .int .u8 0, .int .u8 0, .int .u8 0, .int .u8 0, .int .u8 0, .int .u8 0, .int .u8 0, .int .u8 0, .int .u8 0, .int .u8 0, .int .u8 0, .int .u8 0, .int .u8 0, .int .u8 0, .int .u8 0, .int .u8 0, .int .u8 0, .int .u8 0, .int .u8 0, .int .u8 0, .int .u8 0, .int .u8 0, .int .u8 0, .int .u8 0, .int .u8 0, .int .u8 0, .int .u8 0, .int .u8 0, .int .u8 0, .int .u8 0, .int .u8 0, .int .u8 0, .int .u8 0, .int .u8 0, .int .u8 0, .int .u8 0, .int .u8 0, .int .u8 0, .int .u8 0, .int .u8 0, .int .u8 0, .int .u8 0, .int .u8 0, .int .u8 0, .int .u8 0, .int .u8 0, .int .u8 0, .int .u8 0, .int .u8 0, .int .u8 0, .int .u8 0, .int .u8 0, .int .u8 0, .int .u8 0, .int .u8 0, .int .u8 0, .int .u8 0, .int .u8 0, .int .u8 0, .int .u8 0, .int .u8 0, .int .u8 0, .int .u8 0, .int .u8 0, .int .u8 0, .int .u8 0, .int .u8 0, .int .u8 0, .int .u8 0, .int .u8 0, .int .u8 0, .int .u8 0, .int .u8 0, .int .u8 0, .int .u8 0, .int .u8 0, .int .u8 0, .int .u8 0, .int .u8 0, .int .u8 0, .int .u8 0, .int .u8 0, .int .u8 0, .int .u8 0, .int .u8 0, .int .u8 0, .int .u8 0, .int .u8 0, .int .u8 0, .int .u8 0, .int .u8 0, .int .u8 0, .int .u8 0, .int .u8 0, .int .u8 0, .int .u8 0, .int .u8 0, .int .u8 0, .int .u8 0, .int .u8 0, .int .u8 0, .int .u8 0, .int .u8 0, .int .u8 0, .int .u8 0, .int .u8 0, .int .u8 0, .int .u8 0, .int .u8 0, .int .u8 0, .int .u8 0, .int .u8 0, .int .u8 0, .int .u8 0, .int .u8 0, .int .u8 0, .int .u8 0, .int .u8 0, .int .u8 0, .int .u8 0, .int .u8 0, .int .u8 0, .int .u8 0, .int .u8 0, .int .u8 0, .int .u8 0, .int .u8 0, .int .u8 0, .int .u8 0, .int .u8 0, .int .u8 0, .int .u8 0, .int .u8 0, .int .u8 0, .int .u8 0, .int .u8 0, .int .u8 0, .int .u8 0, .int .u8 0, .int .u8 0, .int .u8 0, .int .u8 0, .int .u8 0, .int .u8 0, .int .u8 0, .int .u8 0, .int .u8 0, .int .u8 0, .int .u8 0, .int .u8 0, .int .u8 0, .int .u8 0, .int .u8 0, .int .u8 0, .int .u8 0, .int .u8 0, .int .u8 0, .int .u8 0, .int .u8 0, .int .u8 0, .int .u8 0, .int .u8 0, .int .u8 0, .int .u8 0, .int .u8 0, .int .u8 0, .int .u8 0, .int .u8 0, .int .u8 0, .int .u8 0, .int .u8 0, .int .u8 0, .int .u8 0, .int .u8 0, .int .u8 0, .int .u8 0, .int .u8 0, .int .u8 0, .int .u8 0, .int .u8 0, .int .u8 0, .int .u8 0, .int .u8 0, .int .u8 0, .int .u8 0, .int .u8 0, .int .u8 0, .int .u8 0, .int .u8 0, .int .u8 0, .int .u8 0, .int .u8 0, .int .u8 0, .int .u8 0, .int .u8 0, .int .u8 0, .int .u8 0, .int .u8 0, .int .u8 0, .int .u8 0, .int .u8 0, .int .u8 0, .int .u8 0, .int .u8 0, .int .u8 0, .int .u8 0, .int .u8 0, .int .u8 0, .int .u8 0, .int .u8 0, .int .u8 0, .int .u8 0, .int .u8 0, .int .u8 0, .int .u8 0, .int .u8 0, .int .u8 0, .int .u8 0, .int .u8 0, .int .u8 0, .int .u8 0, .int .u8 0, .int .u8 0, .int .u8 0, .int .u8 0, .int .u8 0, .int .u8 0, .int .u8 0, .int .u8 0, .int .u8 0, .int .u8 0, .int .u8 0, .int .u8 0, .int .u8 0, .int .u8 0, .int .u8 0, .int .u8 0, .int .u8 0, .int .u8 0, .int .u8 0, .int .u8 0]) := ⟨by kernel_rfl⟩
instance : Zc Tryz.prog 282 [.int .u8 0, .int .u8 0, .int .u8 0, .int .u8 0, .int .u8 0, .int .u8 0, .int .u8 0, .int .u8 0, .int .u8 0, .int .u8 0, .int .u8 0, .int .u8 0, .int .u8 0, .int .u8 0, .int .u8 0, .int .u8 0, .int .u8 0, .int .u8 0, .int .u8 0, .int .u8 0, .int .u8 0, .int .u8 0, .int .u8 0, .int .u8 0, .int .u8 0, .int .u8 0, .int .u8 0, .int .u8 0, .int .u8 0, .int .u8 0, .int .u8 0, .int .u8 0, .int .u8 0, .int .u8 0, .int .u8 0, .int .u8 0, .int .u8 0, .int .u8 0, .int .u8 0, .int .u8 0, .int .u8 0, .int .u8 0, .int .u8 0, .int .u8 0, .int .u8 0, .int .u8 0, .int .u8 0, .int .u8 0, .int .u8 0, .int .u8 0, .int .u8 0, .int .u8 0, .int .u8 0, .int .u8 0, .int .u8 0, .int .u8 0, .int .u8 0, .int .u8 0, .int .u8 0, .int .u8 0, .int .u8 0, .int .u8 0, .int .u8 0, .int .u8 0, .int .u8 0, .int .u8 0, .int .u8 0, .int .u8 0, .int .u8 0, .int .u8 0, .int .u8 0, .int .u8 0, .int .u8 0, .int .u8 0, .int .u8 0, .int .u8 0, .int .u8 0, .int .u8 0, .int .u8 0, .int .u8 0, .int .u8 0, .int .u8 0, .int .u8 0, .int .u8 0, .int .u8 0, .int .u8 0, .int .u8 0, .int .u8 0, .int .u8 0, .int .u8 0, .int .u8 0, .int .u8 0, .int .u8 0, .int .u8 0, .int .u8 0, .int .u8 0, .int .u8 0, .int .u8 0, .int .u8 0, .int .u8 0, .int .u8 0, .int .u8 0, .int .u8 0, .int .u8 0, .int .u8 0, .int .u8 0, .int .u8 0, .int .u8 0, .int .u8 0, .int .u8 0, .int .u8 0, .int .u8 0, .int .u8 0, .int .u8 0, .int .u8 0, .int .u8 0, .int .u8 0, .int .u8 0, .int .u8 0, .int .u8 0, .int .u8 0, .int .u8 0, .int .u8 0, .int .u8 0, .int .u8 0, .int .u8 0, .int .u8 0, .int .u8 0, .int .u8 0, .int .u8 0, .int .u8 0, .int .u8 0, .int .u8 0, .int .u8 0, .int .u8 0, .int .u8 0, .int .u8 0, .int .u8 0, .int .u8 0, .int .u8 0, .int .u8 0, .int .u8 0, .int .u8 0, .int .u8 0, .int .u8 0, .int .u8 0, .int .u8 0, .int .u8 0, .int .u8 0, .int .u8 0, .int .u8 0, .int .u8 0, .int .u8 0, .int .u8 0, .int .u8 0, .int .u8 0, .int .u8 0, .int .u8 0, .int .u8 0, .int .u8 0, .int .u8 0, .int .u8 0, .int .u8 0, .int .u8 0, .int .u8 0, .int .u8 0, .int .u8 0, .int .u8 0, .int .u8 0, .int .u8 0, .int .u8 0, .int .u8 0, .int .u8 0, .int .u8 0, .int .u8 0, .int .u8 0, .int .u8 0, .int .u8 0, .int .u8 0, .int .u8 0, .int .u8 0, .int .u8 0, .int .u8 0, .int .u8 0, .int .u8 0, .int .u8 0, .int .u8 0, .int .u8 0, .int .u8 0, .int .u8 0, .int .u8 0, .int .u8 0, .int .u8 0, .int .u8 0, .int .u8 0, .int .u8 0, .int .u8 0, .int .u8 0, .int .u8 0, .int .u8 0, .int .u8 0, .int .u8 0, .int .u8 0, .int .u8 0, .int .u8 0, .int .u8 0, .int .u8 0, .int .u8 0, .int .u8 0, .int .u8 0, .int .u8 0, .int .u8 0, .int .u8 0, .int .u8 0, .int .u8 0, .int .u8 0, .int .u8 0, .int .u8 0, .int .u8 0, .int .u8 0, .int .u8 0, .int .u8 0, .int .u8 0, .int .u8 0, .int .u8 0, .int .u8 0, .int .u8 0, .int .u8 0, .int .u8 0, .int .u8 0, .int .u8 0, .int .u8 0, .int .u8 0, .int .u8 0, .int .u8 0, .int .u8 0, .int .u8 0, .int .u8 0, .int .u8 0, .int .u8 0, .int .u8 0, .int .u8 0, .int .u8 0, .int .u8 0, .int .u8 0, .int .u8 0, .int .u8 0, .int .u8 0, .int .u8 0, .int .u8 0, .int .u8 0, .int .u8 0, .int .u8 0, .int .u8 0, .int .u8 0, .int .u8 0] := ⟨⟨.agg #[.int .u8 0, .int .u8 0, .int .u8 0, .int .u8 0, .int .u8 0, .int .u8 0, .int .u8 0, .int .u8 0, .int .u8 0, .int .u8 0, .int .u8 0, .int .u8 0, .int .u8 0, .int .u8 0, .int .u8 0, .int .u8 0, .int .u8 0, .int .u8 0, .int .u8 0, .int .u8 0, .int .u8 0, .int .u8 0, .int .u8 0, .int .u8 0, .int .u8 0, .int .u8 0, .int .u8 0, .int .u8 0, .int .u8 0, .int .u8 0, .int .u8 0, .int .u8 0, .int .u8 0, .int .u8 0, .int .u8 0, .int .u8 0, .int .u8 0, .int .u8 0, .int .u8 0, .int .u8 0, .int .u8 0, .int .u8 0, .int .u8 0, .int .u8 0, .int .u8 0, .int .u8 0, .int .u8 0, .int .u8 0, .int .u8 0, .int .u8 0, .int .u8 0, .int .u8 0, .int .u8 0, .int .u8 0, .int .u8 0, .int .u8 0, .int .u8 0, .int .u8 0, .int .u8 0, .int .u8 0, .int .u8 0, .int .u8 0, .int .u8 0, .int .u8 0, .int .u8 0, .int .u8 0, .int .u8 0, .int .u8 0, .int .u8 0, .int .u8 0, .int .u8 0, .int .u8 0, .int .u8 0, .int .u8 0, .int .u8 0, .int .u8 0, .int .u8 0, .int .u8 0, .int .u8 0, .int .u8 0, .int .u8 0, .int .u8 0, .int .u8 0, .int .u8 0, .int .u8 0, .int .u8 0, .int .u8 0, .int .u8 0, .int .u8 0, .int .u8 0, .int .u8 0, .int .u8 0, .int .u8 0, .int .u8 0, .int .u8 0, .int .u8 0, .int .u8 0, .int .u8 0, .int .u8 0, .int .u8 0, .int .u8 0, .int .u8 0, .int .u8 0, .int .u8 0, .int .u8 0, .int .u8 0, .int .u8 0, .int .u8 0, .int .u8 0, .int .u8 0, .int .u8 0, .int .u8 0, .int .u8 0, .int .u8 0, .int .u8 0, .int .u8 0, .int .u8 0, .int .u8 0, .int .u8 0, .int .u8 0, .int .u8 0, .int .u8 0, .int .u8 0, .int .u8 0, .int .u8 0, .int .u8 0, .int .u8 0, .int .u8 0, .int .u8 0, .int .u8 0, .int .u8 0, .int .u8 0, .int .u8 0, .int .u8 0, .int .u8 0, .int .u8 0, .int .u8 0, .int .u8 0, .int .u8 0, .int .u8 0, .int .u8 0, .int .u8 0, .int .u8 0, .int .u8 0, .int .u8 0, .int .u8 0, .int .u8 0, .int .u8 0, .int .u8 0, .int .u8 0, .int .u8 0, .int .u8 0, .int .u8 0, .int .u8 0, .int .u8 0, .int .u8 0, .int .u8 0, .int .u8 0, .int .u8 0, .int .u8 0, .int .u8 0, .int .u8 0, .int .u8 0, .int .u8 0, .int .u8 0, .int .u8 0, .int .u8 0, .int .u8 0, .int .u8 0, .int .u8 0, .int .u8 0, .int .u8 0, .int .u8 0, .int .u8 0, .int .u8 0, .int .u8 0, .int .u8 0, .int .u8 0, .int .u8 0, .int .u8 0, .int .u8 0, .int .u8 0, .int .u8 0, .int .u8 0, .int .u8 0, .int .u8 0, .int .u8 0, .int .u8 0, .int .u8 0, .int .u8 0, .int .u8 0, .int .u8 0, .int .u8 0, .int .u8 0, .int .u8 0, .int .u8 0, .int .u8 0, .int .u8 0, .int .u8 0, .int .u8 0, .int .u8 0, .int .u8 0, .int .u8 0, .int .u8 0, .int .u8 0, .int .u8 0, .int .u8 0, .int .u8 0, .int .u8 0, .int .u8 0, .int .u8 0, .int .u8 0, .int .u8 0, .int .u8 0, .int .u8 0, .int .u8 0, .int .u8 0, .int .u8 0, .int .u8 0, .int .u8 0, .int .u8 0, .int .u8 0, .int .u8 0, .int .u8 0, .int .u8 0, .int .u8 0, .int .u8 0, .int .u8 0, .int .u8 0, .int .u8 0, .int .u8 0, .int .u8 0, .int .u8 0, .int .u8 0, .int .u8 0, .int .u8 0, .int .u8 0, .int .u8 0, .int .u8 0, .int .u8 0, .int .u8 0, .int .u8 0, .int .u8 0, .int .u8 0, .int .u8 0, .int .u8 0, .int .u8 0, .int .u8 0, .int .u8 0, .int .u8 0, .int .u8 0, .int .u8 0, .int .u8 0, .int .u8 0, .int .u8 0, .int .u8 0], by kernel_rfl, rfl⟩⟩
instance : Arr Tryz.prog 282 256 5 := ⟨Tryz.underlying282⟩
instance : Bd Tryz.prog 282 (fun i => some (i * 1, 1)) (Value.cells (.agg #[.int .u8 0, .int .u8 0, .int .u8 0, .int .u8 0, .int .u8 0, .int .u8 0, .int .u8 0, .int .u8 0, .int .u8 0, .int .u8 0, .int .u8 0, .int .u8 0, .int .u8 0, .int .u8 0, .int .u8 0, .int .u8 0, .int .u8 0, .int .u8 0, .int .u8 0, .int .u8 0, .int .u8 0, .int .u8 0, .int .u8 0, .int .u8 0, .int .u8 0, .int .u8 0, .int .u8 0, .int .u8 0, .int .u8 0, .int .u8 0, .int .u8 0, .int .u8 0, .int .u8 0, .int .u8 0, .int .u8 0, .int .u8 0, .int .u8 0, .int .u8 0, .int .u8 0, .int .u8 0, .int .u8 0, .int .u8 0, .int .u8 0, .int .u8 0, .int .u8 0, .int .u8 0, .int .u8 0, .int .u8 0, .int .u8 0, .int .u8 0, .int .u8 0, .int .u8 0, .int .u8 0, .int .u8 0, .int .u8 0, .int .u8 0, .int .u8 0, .int .u8 0, .int .u8 0, .int .u8 0, .int .u8 0, .int .u8 0, .int .u8 0, .int .u8 0, .int .u8 0, .int .u8 0, .int .u8 0, .int .u8 0, .int .u8 0, .int .u8 0, .int .u8 0, .int .u8 0, .int .u8 0, .int .u8 0, .int .u8 0, .int .u8 0, .int .u8 0, .int .u8 0, .int .u8 0, .int .u8 0, .int .u8 0, .int .u8 0, .int .u8 0, .int .u8 0, .int .u8 0, .int .u8 0, .int .u8 0, .int .u8 0, .int .u8 0, .int .u8 0, .int .u8 0, .int .u8 0, .int .u8 0, .int .u8 0, .int .u8 0, .int .u8 0, .int .u8 0, .int .u8 0, .int .u8 0, .int .u8 0, .int .u8 0, .int .u8 0, .int .u8 0, .int .u8 0, .int .u8 0, .int .u8 0, .int .u8 0, .int .u8 0, .int .u8 0, .int .u8 0, .int .u8 0, .int .u8 0, .int .u8 0, .int .u8 0, .int .u8 0, .int .u8 0, .int .u8 0, .int .u8 0, .int .u8 0, .int .u8 0, .int .u8 0, .int .u8 0, .int .u8 0, .int .u8 0, .int .u8 0, .int .u8 0, .int .u8 0, .int .u8 0, .int .u8 0, .int .u8 0, .int .u8 0, .int .u8 0, .int .u8 0, .int .u8 0, .int .u8 0, .int .u8 0, .int .u8 0, .int .u8 0, .int .u8 0, .int .u8 0, .int .u8 0, .int .u8 0, .int .u8 0, .int .u8 0, .int .u8 0, .int .u8 0, .int .u8 0, .int .u8 0, .int .u8 0, .int .u8 0, .int .u8 0, .int .u8 0, .int .u8 0, .int .u8 0, .int .u8 0, .int .u8 0, .int .u8 0, .int .u8 0, .int .u8 0, .int .u8 0, .int .u8 0, .int .u8 0, .int .u8 0, .int .u8 0, .int .u8 0, .int .u8 0, .int .u8 0, .int .u8 0, .int .u8 0, .int .u8 0, .int .u8 0, .int .u8 0, .int .u8 0, .int .u8 0, .int .u8 0, .int .u8 0, .int .u8 0, .int .u8 0, .int .u8 0, .int .u8 0, .int .u8 0, .int .u8 0, .int .u8 0, .int .u8 0, .int .u8 0, .int .u8 0, .int .u8 0, .int .u8 0, .int .u8 0, .int .u8 0, .int .u8 0, .int .u8 0, .int .u8 0, .int .u8 0, .int .u8 0, .int .u8 0, .int .u8 0, .int .u8 0, .int .u8 0, .int .u8 0, .int .u8 0, .int .u8 0, .int .u8 0, .int .u8 0, .int .u8 0, .int .u8 0, .int .u8 0, .int .u8 0, .int .u8 0, .int .u8 0, .int .u8 0, .int .u8 0, .int .u8 0, .int .u8 0, .int .u8 0, .int .u8 0, .int .u8 0, .int .u8 0, .int .u8 0, .int .u8 0, .int .u8 0, .int .u8 0, .int .u8 0, .int .u8 0, .int .u8 0, .int .u8 0, .int .u8 0, .int .u8 0, .int .u8 0, .int .u8 0, .int .u8 0, .int .u8 0, .int .u8 0, .int .u8 0, .int .u8 0, .int .u8 0, .int .u8 0, .int .u8 0, .int .u8 0, .int .u8 0, .int .u8 0, .int .u8 0, .int .u8 0, .int .u8 0, .int .u8 0, .int .u8 0, .int .u8 0, .int .u8 0, .int .u8 0, .int .u8 0, .int .u8 0, .int .u8 0, .int .u8 0, .int .u8 0, .int .u8 0, .int .u8 0])) := bd_array Tryz.underlying282 (by kernel_rfl) (by kernel_rfl)
instance : Ag Tryz.prog 283 2 := ⟨by kernel_rfl, ⟨_, Tryz.underlying283, rfl⟩⟩
instance : Sz Tryz.prog 283 2 := ⟨by kernel_rfl⟩
instance : By Tryz.prog 283 2 := ⟨by kernel_rfl⟩
instance : Zr Tryz.prog 283 (.agg #[.int .u8 0, .int .u8 0]) := ⟨by kernel_rfl⟩
instance : Zc Tryz.prog 283 [.int .u8 0, .int .u8 0] := ⟨⟨.agg #[.int .u8 0, .int .u8 0], by kernel_rfl, rfl⟩⟩
instance : Fi Tryz.prog 283 0 0 5 := ⟨⟨_, _, Tryz.underlying283, rfl, rfl, rfl⟩, ⟨1, by kernel_rfl, by decide⟩⟩
instance : Fi Tryz.prog 283 1 1 5 := ⟨⟨_, _, Tryz.underlying283, rfl, rfl, rfl⟩, ⟨1, by kernel_rfl, by decide⟩⟩
instance : Bd Tryz.prog 283 (fun i : Nat => ([(0, 1), (1, 1)] : List (Nat × Nat))[i]?) (Value.cells (.agg #[.int .u8 0, .int .u8 0])) := bd_struct Tryz.underlying283 (by kernel_rfl) (by kernel_rfl)
instance : Ag Tryz.prog 284 2 := ⟨by kernel_rfl, ⟨_, Tryz.underlying284, rfl⟩⟩
instance : Sz Tryz.prog 284 2 := ⟨by kernel_rfl⟩
instance : By Tryz.prog 284 2 := ⟨by kernel_rfl⟩
instance : Zr Tryz.prog 284 (.agg #[.int .u8 0, .int .u8 0]) := ⟨by kernel_rfl⟩
instance : Zc Tryz.prog 284 [.int .u8 0, .int .u8 0] := ⟨⟨.agg #[.int .u8 0, .int .u8 0], by kernel_rfl, rfl⟩⟩
instance : Fi Tryz.prog 284 0 0 5 := ⟨⟨_, _, Tryz.underlying284, rfl, rfl, rfl⟩, ⟨1, by kernel_rfl, by decide⟩⟩
instance : Fi Tryz.prog 284 1 1 5 := ⟨⟨_, _, Tryz.underlying284, rfl, rfl, rfl⟩, ⟨1, by kernel_rfl, by decide⟩⟩
instance : Bd Tryz.prog 284 (fun i : Nat => ([(0, 1), (1, 1)] : List (Nat × Nat))[i]?) (Value.cells (.agg #[.int .u8 0, .int .u8 0])) := bd_struct Tryz.underlying284 (by kernel_rfl) (by kernel_rfl)
instance : Ag Tryz.prog 285 32 := ⟨by kernel_rfl, ⟨_, Tryz.underlying285, rfl⟩⟩
instance : Sz Tryz.prog 285 32 := ⟨by kernel_rfl⟩
instance : By Tryz.prog 285 32 := ⟨by kernel_rfl⟩
instance : Zr Tryz.prog 285 (.agg #[.int .u8 0, .int .u8 0, .int .u8 0, .int .u8 0, .int .u8 0, .int .u8 0, .int .u8 0, .int .u8 0, .int .u8 0, .int .u8 0, .int .u8 0, .int .u8 0, .int .u8 0, .int .u8 0, .int .u8 0, .int .u8 0, .int .u8 0, .int .u8 0, .int .u8 0, .int .u8 0, .int .u8 0, .int .u8 0, .int .u8 0, .int .u8 0, .int .u8 0, .int .u8 0, .int .u8 0, .int .u8 0, .int .u8 0, .int .u8 0, .int .u8 0, .int .u8 0]) := ⟨by kernel_rfl⟩
instance : Zc Tryz.prog 285 [.int .u8 0, .int .u8 0, .int .u8 0, .int .u8 0, .int .u8 0, .int .u8 0, .int .u8 0, .int .u8 0, .int .u8 0, .int .u8 0, .int .u8 0, .int .u8 0, .int .u8 0, .int .u8 0, .int .u8 0, .int .u8 0, .int .u8 0, .int .u8 0, .int .u8 0, .int .u8 0, .int .u8 0, .int .u8 0, .int .u8 0, .int .u8 0, .int .u8 0, .int .u8 0, .int .u8 0, .int .u8 0, .int .u8 0, .int .u8 0, .int .u8 0, .int .u8 0] := ⟨⟨.agg #[.int .u8 0, .int .u8 0, .int .u8 0, .int .u8 0, .int .u8 0, .int .u8 0, .int .u8 0, .int .u8 0, .int .u8 0, .int .u8 0, .int .u8 0, .int .u8 0, .int .u8 0, .int .u8 0, .int .u8 0, .int .u8 0, .int .u8 0, .int .u8 0, .int .u8 0, .int .u8 0, .int .u8 0, .int .u8 0, .int .u8 0, .int .u8 0, .int .u8 0, .int .u8 0, .int .u8 0, .int .u8 0, .int .u8 0, .int .u8 0, .int .u8 0, .int .u8 0], by kernel_rfl, rfl⟩⟩
instance : Arr Tryz.prog 285 16 284 := ⟨Tryz.underlying285⟩
instance : Bd Tryz.prog 285 (fun i => some (i * 2, 2)) (Value.cells (.agg #[.int .u8 0, .int .u8 0, .int .u8 0, .int .u8 0, .int .u8 0, .int .u8 0, .int .u8 0, .int .u8 0, .int .u8 0, .int .u8 0, .int .u8 0, .int .u8 0, .int .u8 0, .int .u8 0, .int .u8 0, .int .u8 0, .int .u8 0, .int .u8 0, .int .u8 0, .int .u8 0, .int .u8 0, .int .u8 0, .int .u8 0, .int .u8 0, .int .u8 0, .int .u8 0, .int .u8 0, .int .u8 0, .int .u8 0, .int .u8 0, .int .u8 0, .int .u8 0])) := bd_array Tryz.underlying285 (by kernel_rfl) (by kernel_rfl)
instance : Sc Tryz.prog 286 := ⟨by kernel_rfl, ⟨_, Tryz.underlying286, rfl⟩⟩
instance : Sz Tryz.prog 286 1 := ⟨by kernel_rfl⟩
instance : By Tryz.prog 286 8 := ⟨by kernel_rfl⟩
instance : Zr Tryz.prog 286 (.nilFunc) := ⟨by kernel_rfl⟩
instance : Zc Tryz.prog 286 [.nilFunc] := ⟨⟨.nilFunc, by kernel_rfl, rfl⟩⟩
instance : Sc Tryz.prog 287 := ⟨by kernel_rfl, ⟨_, Tryz.underlying287, rfl⟩⟩
instance : Sz Tryz.prog 287 1 := ⟨by kernel_rfl⟩
instance : By Tryz.prog 287 8 := ⟨by kernel_rfl⟩
instance : Zr Tryz.prog 287 (.nilFunc) := ⟨by kernel_rfl⟩
instance : Zc Tryz.prog 287 [.nilFunc] := ⟨⟨.nilFunc, by kernel_rfl, rfl⟩⟩
instance : Sc Tryz.prog 288 := ⟨by kernel_rfl, ⟨_, Tryz.underlying288, rfl⟩⟩
instance : Sz Tryz.prog 288 1 := ⟨by kernel_rfl⟩
instance : By Tryz.prog 288 8 := ⟨by kernel_rfl⟩
instance : Zr Tryz.prog 288 (.nilFunc) := ⟨by kernel_rfl⟩
instance : Zc Tryz.prog 288 [.nilFunc] := ⟨⟨.nilFunc, by kernel_rfl, rfl⟩⟩
instance : Sc Tryz.prog 289 := ⟨by kernel_rfl, ⟨_, Tryz.underlying289, rfl⟩⟩
instance : Sz Tryz.prog 289 1 := ⟨by kernel_rfl⟩
instance : By Tryz.prog 289 8 := ⟨by kernel_rfl⟩
instance : Zr Tryz.prog 289 (.int .u64 0) := ⟨by kernel_rfl⟩
instance : Zc Tryz.prog 289 [.int .u64 0] := ⟨⟨.int .u64 0, by kernel_rfl, rfl⟩⟩
instance : Ity Tryz.prog 289 .u64 := ⟨Tryz.underlying289⟩
instance : Sc Tryz.prog 290 := ⟨by kernel_rfl, ⟨_, Tryz.underlying290, rfl⟩⟩
instance : Sz Tryz.prog 290 1 := ⟨by kernel_rfl⟩
instance : By Tryz.prog 290 8 := ⟨by kernel_rfl⟩
instance : Zr Tryz.prog 290 (.nilFunc) := ⟨by kernel_rfl⟩
instance : Zc Tryz.prog 290 [.nilFunc] := ⟨⟨.nilFunc, by kernel_rfl, rfl⟩⟩
instance : Sc Tryz.prog 291 := ⟨by kernel_rfl, ⟨_, Tryz.underlying291, rfl⟩⟩
instance : Sz Tryz.prog 291 1 := ⟨by kernel_rfl⟩
instance : By Tryz.prog 291 8 := ⟨by kernel_rfl⟩
instance : Zr Tryz.prog 291 (.nilFunc) := ⟨by kernel_rfl⟩
instance : Zc Tryz.prog 291 [.nilFunc] := ⟨⟨.nilFunc, by kernel_rfl, rfl⟩⟩
instance : Sc Tryz.prog 292 := ⟨by kernel_rfl, ⟨_, Tryz.underlying292, rfl⟩⟩
instance : Sz Tryz.prog 292 1 := ⟨by kernel_rfl⟩
instance : By Tryz.prog 292 8 := ⟨by kernel_rfl⟩
instance : Zr Tryz.prog 292 (.nilFunc) := ⟨by kernel_rfl⟩
instance : Zc Tryz.prog 292 [.nilFunc] := ⟨⟨.nilFunc, by kernel_rfl, rfl⟩⟩
instance : Sc Tryz.prog 293 := ⟨by kernel_rfl, ⟨_, Tryz.underlying293, rfl⟩⟩
instance : Sz Tryz.prog 293 1 := ⟨by kernel_rfl⟩
instance : By Tryz.prog 293 8 := ⟨by kernel_rfl⟩
instance : Zr Tryz.prog 293 (.nilFunc) := ⟨by kernel_rfl⟩
instance : Zc Tryz.prog 293 [.nilFunc] := ⟨⟨.nilFunc, by kernel_rfl, rfl⟩⟩
instance : Sc Tryz.prog 294 := ⟨by kernel_rfl, ⟨_, Tryz.underlying294, rfl⟩⟩
instance : Sz Tryz.prog 294 1 := ⟨by kernel_rfl⟩
instance : By Tryz.prog 294 8 := ⟨by kernel_rfl⟩
instance : Zr Tryz.prog 294 (.nilFunc) := ⟨by kernel_rfl⟩
instance : Zc Tryz.prog 294 [.nilFunc] := ⟨⟨.nilFunc, by kernel_rfl, rfl⟩⟩
instance : Sc Tryz.prog 295 := ⟨by kernel_rfl, ⟨_, Tryz.underlying295, rfl⟩⟩
instance : Sz Tryz.prog 295 1 := ⟨by kernel_rfl⟩
instance : By Tryz.prog 295 8 := ⟨by kernel_rfl⟩
instance : Zr Tryz.prog 295 (.nilFunc) := ⟨by kernel_rfl⟩
instance : Zc Tryz.prog 295 [.nilFunc] := ⟨⟨.nilFunc, by kernel_rfl, rfl⟩⟩
instance : Sc Tryz.prog 296 := ⟨by kernel_rfl, ⟨_, Tryz.underlying296, rfl⟩⟩
instance : Sz Tryz.prog 296 1 := ⟨by kernel_rfl⟩
instance : By Tryz.prog 296 8 := ⟨by kernel_rfl⟩
instance : Zr Tryz.prog 296 (.nilFunc) := ⟨by kernel_rfl⟩
instance : Zc Tryz.prog 296 [.nilFunc] := ⟨⟨.nilFunc, by kernel_rfl, rfl⟩⟩
instance : Sc Tryz.prog 297 := ⟨by kernel_rfl, ⟨_, Tryz.underlying297, rfl⟩⟩
instance : Sz Tryz.prog 297 1 := ⟨by kernel_rfl⟩
instance : By Tryz.prog 297 8 := ⟨by kernel_rfl⟩
instance : Zr Tryz.prog 297 (.nilFunc) := ⟨by kernel_rfl⟩
instance : Zc Tryz.prog 297 [.nilFunc] := ⟨⟨.nilFunc, by kernel_rfl, rfl⟩⟩
instance : Sc Tryz.prog 298 := ⟨by kernel_rfl, ⟨_, Tryz.underlying298, rfl⟩⟩
instance : Sz Tryz.prog 298 1 := ⟨by kernel_rfl⟩
instance : By Tryz.prog 298 8 := ⟨by kernel_rfl⟩
instance : Zr Tryz.prog 298 (.pointer none) := ⟨by kernel_rfl⟩
instance : Zc Tryz.prog 298 [.pointer none] := ⟨⟨.pointer none, by kernel_rfl, rfl⟩⟩
instance : Ag Tryz.prog 299 64 := ⟨by kernel_rfl, ⟨_, Tryz.underlying299, rfl⟩⟩
instance : Sz Tryz.prog 299 64 := ⟨by kernel_rfl⟩
instance : By Tryz.prog 299 256 := ⟨by kernel_rfl⟩
instance : Zr Tryz.prog 299 (.agg #[.int .u32 0, .int .u32 0, .int .u32 0, .int .u32 0, .int .u32 0, .int .u32 0, .int .u32 0, .int .u32 0, .int .u32 0, .int .u32 0, .int .u32 0, .int .u32 0, .int .u32 0, .int .u32 0, .int .u32 0, .int .u32 0, .int .u32 0, .int .u32 0, .int .u32 0, .int .u32 0, .int .u32 0, .int .u32 0, .int .u32 0, .int .u32 0, .int .u32 0, .int .u32 0, .int .u32 0, .int .u32 0, .int .u32 0, .int .u32 0, .int .u32 0, .int .u32 0, .int .u32 0, .int .u32 0, .int .u32 0, .int .u32 0, .int .u32 0, .int .u32 0, .int .u32 0, .int .u32 0, .int .u32 0, .int .u32 0, .int .u32 0, .int .u32 0, .int .u32 0, .int .u32 0, .int .u32 0, .int .u32 0, .int .u32 0, .int .u32 0, .int .u32 0, .int .u32 0, .int .u32 0, .int .u32 0, .int .u32 0, .int .u32 0, .int .u32 0, .int .u32 0, .int .u32 0, .int .u32 0, .int .u32 0, .int .u32 0, .int .u32 0, .int .u32 0]) := ⟨by kernel_rfl⟩
instance : Zc Tryz.prog 299 [.int .u32 0, .int .u32 0, .int .u32 0, .int .u32 0, .int .u32 0, .int .u32 0, .int .u32 0, .int .u32 0, .int .u32 0, .int .u32 0, .int .u32 0, .int .u32 0, .int .u32 0, .int .u32 0, .int .u32 0, .int .u32 0, .int .u32 0, .int .u32 0, .int .u32 0, .int .u32 0, .int .u32 0, .int .u32 0, .int .u32 0, .int .u32 0, .int .u32 0, .int .u32 0, .int .u32 0, .int .u32 0, .int .u32 0, .int .u32 0, .int .u32 0, .int .u32 0, .int .u32 0, .int .u32 0, .int .u32 0, .int .u32 0, .int .u32 0, .int .u32 0, .int .u32 0, .int .u32 0, .int .u32 0, .int .u32 0, .int .u32 0, .int .u32 0, .int .u32 0, .int .u32 0, .int .u32 0, .int .u32 0, .int .u32 0, .int .u32 0, .int .u32 0, .int .u32 0, .int .u32 0, .int .u32 0, .int .u32 0, .int .u32 0, .int .u32 0, .int .u32 0, .int .u32 0, .int .u32 0, .int .u32 0, .int .u32 0, .int .u32 0, .int .u32 0] := ⟨⟨.agg #[.int .u32 0, .int .u32 0, .int .u32 0, .int .u32 0, .int .u32 0, .int .u32 0, .int .u32 0, .int .u32 0, .int .u32 0, .int .u32 0, .int .u32 0, .int .u32 0, .int .u32 0, .int .u32 0, .int .u32 0, .int .u32 0, .int .u32 0, .int .u32 0, .int .u32 0, .int .u32 0, .int .u32 0, .int .u32 0, .int .u32 0, .int .u32 0, .int .u32 0, .int .u32 0, .int .u32 0, .int .u32 0, .int .u32 0, .int .u32 0, .int .u32 0, .int .u32 0, .int .u32 0, .int .u32 0, .int .u32 0, .int .u32 0, .int .u32 0, .int .u32 0, .int .u32 0, .int .u32 0, .int .u32 0, .int .u32 0, .int .u32 0, .int .u32 0, .int .u32 0, .int .u32 0, .int .u32 0, .int .u32 0, .int .u32 0, .int .u32 0, .int .u32 0, .int .u32 0, .int .u32 0, .int .u32 0, .int .u32 0, .int .u32 0, .int .u32 0, .int .u32 0, .int .u32 0, .int .u32 0, .int .u32 0, .int .u32 0, .int .u32 0, .int .u32 0], by kernel_rfl, rfl⟩⟩
instance : Arr Tryz.prog 299 64 126 := ⟨Tryz.underlying299⟩
instance : Bd Tryz.prog 299 (fun i => some (i * 1, 1)) (Value.cells (.agg #[.int .u32 0, .int .u32 0, .int .u32 0, .int .u32 0, .int .u32 0, .int .u32 0, .int .u32 0, .int .u32 0, .int .u32 0, .int .u32 0, .int .u32 0, .int .u32 0, .int .u32 0, .int .u32 0, .int .u32 0, .int .u32 0, .int .u32 0, .int .u32 0, .int .u32 0, .int .u32 0, .int .u32 0, .int .u32 0, .int .u32 0, .int .u32 0, .int .u32 0, .int .u32 0, .int .u32 0, .int .u32 0, .int .u32 0, .int .u32 0, .int .u32 0, .int .u32 0, .int .u32 0, .int .u32 0, .int .u32 0, .int .u32 0, .int .u32 0, .int .u32 0, .int .u32 0, .int .u32 0, .int .u32 0, .int .u32 0, .int .u32 0, .int .u32 0, .int .u32 0, .int .u32 0, .int .u32 0, .int .u32 0, .int .u32 0, .int .u32 0, .int .u32 0, .int .u32 0, .int .u32 0, .int .u32 0, .int .u32 0, .int .u32 0, .int .u32 0, .int .u32 0, .int .u32 0, .int .u32 0, .int .u32 0, .int .u32 0, .int .u32 0, .int .u32 0])) := bd_array Tryz.underlying299 (by kernel_rfl) (by kernel_rfl)
instance : Sc Tryz.prog 300 := ⟨by kernel_rfl, ⟨_, Tryz.underlying300, rfl⟩⟩
instance : Sz Tryz.prog 300 1 := ⟨by kernel_rfl⟩
instance : By Tryz.prog 300 8 := ⟨by kernel_rfl⟩
instance : Zr Tryz.prog 300 (.nilFunc) := ⟨by kernel_rfl⟩
instance : Zc Tryz.prog 300 [.nilFunc] := ⟨⟨.nilFunc, by kernel_rfl, rfl⟩⟩
instance : Sc Tryz.prog 301 := ⟨by kernel_rfl, ⟨_, Tryz.underlying301, rfl⟩⟩
instance : Sz Tryz.prog 301 1 := ⟨by kernel_rfl⟩
instance : By Tryz.prog 301 8 := ⟨by kernel_rfl⟩
instance : Zr Tryz.prog 301 (.nilFunc) := ⟨by kernel_rfl⟩
instance : Zc Tryz.prog 301 [.nilFunc] := ⟨⟨.nilFunc, by kernel_rfl, rfl⟩⟩
instance : Ag Tryz.prog 302 32 := ⟨by kernel_rfl, ⟨_, Tryz.underlying302, rfl⟩⟩
instance : Sz Tryz.prog 302 32 := ⟨by kernel_rfl⟩
instance : By Tryz.prog 302 32 := ⟨by kernel_rfl⟩
instance : Zr Tryz.prog 302 (.agg #[.int .u8 0, .int .u8 0, .int .u8 0, .int .u8 0, .int .u8 0, .int .u8 0, .int .u8 0, .int .u8 0, .int .u8 0, .int .u8 0, .int .u8 0, .int .u8 0, .int .u8 0, .int .u8 0, .int .u8 0, .int .u8 0, .int .u8 0, .int .u8 0, .int .u8 0, .int .u8 0, .int .u8 0, .int .u8 0, .int .u8 0, .int .u8 0, .int .u8 0, .int .u8 0, .int .u8 0, .int .u8 0, .int .u8 0, .int .u8 0, .int .u8 0, .int .u8 0]) := ⟨by kernel_rfl⟩
instance : Zc Tryz.prog 302 [.int .u8 0, .int .u8 0, .int .u8 0, .int .u8 0, .int .u8 0, .int .u8 0, .int .u8 0, .int .u8 0, .int .u8 0, .int .u8 0, .int .u8 0, .int .u8 0, .int .u8 0, .int .u8 0, .int .u8 0, .int .u8 0, .int .u8 0, .int .u8 0, .int .u8 0, .int .u8 0, .int .u8 0, .int .u8 0, .int .u8 0, .int .u8 0, .int .u8 0, .int .u8 0, .int .u8 0, .int .u8 0, .int .u8 0, .int .u8 0, .int .u8 0, .int .u8 0] := ⟨⟨.agg #[.int .u8 0, .int .u8 0, .int .u8 0, .int .u8 0, .int .u8 0, .int .u8 0, .int .u8 0, .int .u8 0, .int .u8 0, .int .u8 0, .int .u8 0, .int .u8 0, .int .u8 0, .int .u8 0, .int .u8 0, .int .u8 0, .int .u8 0, .int .u8 0, .int .u8 0, .int .u8 0, .int .u8 0, .int .u8 0, .int .u8 0, .int .u8 0, .int .u8 0, .int .u8 0, .int .u8 0, .int .u8 0, .int .u8 0, .int .u8 0, .int .u8 0, .int .u8 0], by kernel_rfl, rfl⟩⟩
instance : Arr Tryz.prog 302 32 5 := ⟨Tryz.underlying302⟩
instance : Bd Tryz.prog 302 (fun i => some (i * 1, 1)) (Value.cells (.agg #[.int .u8 0, .int .u8 0, .int .u8 0, .int .u8 0, .int .u8 0, .int .u8 0, .int .u8 0, .int .u8 0, .int .u8 0, .int .u8 0, .int .u8 0, .int .u8 0, .int .u8 0, .int .u8 0, .int .u8 0, .int .u8 0, .int .u8 0, .int .u8 0, .int .u8 0, .int .u8 0, .int .u8 0, .int .u8 0, .int .u8 0, .int .u8 0, .int .u8 0, .int .u8 0, .int .u8 0, .int .u8 0, .int .u8 0, .int .u8 0, .int .u8 0, .int .u8 0])) := bd_array Tryz.underlying302 (by kernel_rfl) (by kernel_rfl)
instance : Sc Tryz.prog 303 := ⟨by kernel_rfl, ⟨_, Tryz.underlying303, rfl⟩⟩
instance : Sz Tryz.prog 303 1 := ⟨by kernel_rfl⟩
instance : By Tryz.prog 303 8 := ⟨by kernel_rfl⟩
instance : Zr Tryz.prog 303 (.pointer none) := ⟨by kernel_rfl⟩
instance : Zc Tryz.prog 303 [.pointer none] := ⟨⟨.pointer none, by kernel_rfl, rfl⟩⟩
instance : Sc Tryz.prog 305 := ⟨by kernel_rfl, ⟨_, Tryz.underlying305, rfl⟩⟩
instance : Sz Tryz.prog 305 1 := ⟨by kernel_rfl⟩
instance : By Tryz.prog 305 8 := ⟨by kernel_rfl⟩
instance : Zr Tryz.prog 305 (.nilFunc) := ⟨by kernel_rfl⟩
instance : Zc Tryz.prog 305 [.nilFunc] := ⟨⟨.nilFunc, by kernel_rfl, rfl⟩⟩
instance : Sc Tryz.prog 306 := ⟨by kernel_rfl, ⟨_, Tryz.underlying306, rfl⟩⟩
instance : Sz Tryz.prog 306 1 := ⟨by kernel_rfl⟩
instance : By Tryz.prog 306 8 := ⟨by kernel_rfl⟩
instance : Zr Tryz.prog 306 (.nilFunc) := ⟨by kernel_rfl⟩
instance : Zc Tryz.prog 306 [.nilFunc] := ⟨⟨.nilFunc, by kernel_rfl, rfl⟩⟩
instance : Sc Tryz.prog 307 := ⟨by kernel_rfl, ⟨_, Tryz.underlying307, rfl⟩⟩
instance : Sz Tryz.prog 307 1 := ⟨by kernel_rfl⟩
instance : By Tryz.prog 307 8 := ⟨by kernel_rfl⟩
instance : Zr Tryz.prog 307 (.nilFunc) := ⟨by kernel_rfl⟩
instance : Zc Tryz.prog 307 [.nilFunc] := ⟨⟨.nilFunc, by kernel_rfl, rfl⟩⟩
instance : Sc Tryz.prog 308 := ⟨by kernel_rfl, ⟨_, Tryz.underlying308, rfl⟩⟩
instance : Sz Tryz.prog 308 1 := ⟨by kernel_rfl⟩
instance : By Tryz.prog 308 8 := ⟨by kernel_rfl⟩
instance : Zr Tryz.prog 308 (.nilFunc) := ⟨by kernel_rfl⟩
instance : Zc Tryz.prog 308 [.nilFunc] := ⟨⟨.nilFunc, by kernel_rfl, rfl⟩⟩
instance : Sc Tryz.prog 309 := ⟨by kernel_rfl, ⟨_, Tryz.underlying309, rfl⟩⟩
instance : Sz Tryz.prog 309 1 := ⟨by kernel_rfl⟩
instance : By Tryz.prog 309 8 := ⟨by kernel_rfl⟩
instance : Zr Tryz.prog 309 (.nilFunc) := ⟨by kernel_rfl⟩
instance : Zc Tryz.prog 309 [.nilFunc] := ⟨⟨.nilFunc, by kernel_rfl, rfl⟩⟩
instance : Sc Tryz.prog 310 := ⟨by kernel_rfl, ⟨_, Tryz.underlying310, rfl⟩⟩
instance : Sz Tryz.prog 310 1 := ⟨by kernel_rfl⟩
instance : By Tryz.prog 310 8 := ⟨by kernel_rfl⟩
instance : Zr Tryz.prog 310 (.nilFunc) := ⟨by kernel_rfl⟩
instance : Zc Tryz.prog 310 [.nilFunc] := ⟨⟨.nilFunc, by kernel_rfl, rfl⟩⟩
instance : Sc Tryz.prog 311 := ⟨by kernel_rfl, ⟨_, Tryz.underlying311, rfl⟩⟩
instance : Sz Tryz.prog 311 1 := ⟨by kernel_rfl⟩
instance : By Tryz.prog 311 8 := ⟨by kernel_rfl⟩
instance : Zr Tryz.prog 311 (.nilFunc) := ⟨by kernel_rfl⟩
instance : Zc Tryz.prog 311 [.nilFunc] := ⟨⟨.nilFunc, by kernel_rfl, rfl⟩⟩
instance : Sc Tryz.prog 312 := ⟨by kernel_rfl, ⟨_, Tryz.underlying312, rfl⟩⟩
instance : Sz Tryz.prog 312 1 := ⟨by kernel_rfl⟩
instance : By Tryz.prog 312 8 := ⟨by kernel_rfl⟩
instance : Zr Tryz.prog 312 (.nilFunc) := ⟨by kernel_rfl⟩
instance : Zc Tryz.prog 312 [.nilFunc] := ⟨⟨.nilFunc, by kernel_rfl, rfl⟩⟩
instance : Sc Tryz.prog 313 := ⟨by kernel_rfl, ⟨_, Tryz.underlying313, rfl⟩⟩
instance : Sz Tryz.prog 313 1 := ⟨by kernel_rfl⟩
instance : By Tryz.prog 313 8 := ⟨by kernel_rfl⟩
instance : Zr Tryz.prog 313 (.nilFunc) := ⟨by kernel_rfl⟩
instance : Zc Tryz.prog 313 [.nilFunc] := ⟨⟨.nilFunc, by kernel_rfl, rfl⟩⟩
instance : Sc Tryz.prog 314 := ⟨by kernel_rfl, ⟨_, Tryz.underlying314, rfl⟩⟩
instance : Sz Tryz.prog 314 1 := ⟨by kernel_rfl⟩
instance : By Tryz.prog 314 8 := ⟨by kernel_rfl⟩
instance : Zr Tryz.prog 314 (.pointer none) := ⟨by kernel_rfl⟩
instance : Zc Tryz.prog 314 [.pointer none] := ⟨⟨.pointer none, by kernel_rfl, rfl⟩⟩
instance : Ag Tryz.prog 315 4 := ⟨by kernel_rfl, ⟨_, Tryz.underlying315, rfl⟩⟩
instance : Sz Tryz.prog 315 4 := ⟨by kernel_rfl⟩
instance : By Tryz.prog 315 40 := ⟨by kernel_rfl⟩
instance : Zr Tryz.prog 315 (.agg #[.pointer none, .pointer none, .pointer none, .string ByteArray.empty]) := ⟨by kernel_rfl⟩
instance : Zc Tryz.prog 315 [.pointer none, .pointer none, .pointer none, .string ByteArray.empty] := ⟨⟨.agg #[.pointer none, .pointer none, .pointer none, .string ByteArray.empty], by kernel_rfl, rfl⟩⟩
instance : Fi Tryz.prog 315 0 0 17 := ⟨⟨_, _, Tryz.underlying315, rfl, rfl, rfl⟩, ⟨1, by kernel_rfl, by decide⟩⟩
instance : Fi Tryz.prog 315 1 1 17 := ⟨⟨_, _, Tryz.underlying315, rfl, rfl, rfl⟩, ⟨1, by kernel_rfl, by decide⟩⟩
instance : Fi Tryz.prog 315 2 2 17 := ⟨⟨_, _, Tryz.underlying315, rfl, rfl, rfl⟩, ⟨1, by kernel_rfl, by decide⟩⟩
instance : Fi Tryz.prog 315 3 3 9 := ⟨⟨_, _, Tryz.underlying315, rfl, rfl, rfl⟩, ⟨1, by kernel_rfl, by decide⟩⟩
instance : Bd Tryz.prog 315 (fun i : Nat => ([(0, 1), (1, 1), (2, 1), (3, 1)] : List (Nat × Nat))[i]?) (Value.cells (.agg #[.pointer none, .pointer none, .pointer none, .string ByteArray.empty])) := bd_struct Tryz.underlying315 (by kernel_rfl) (by kernel_rfl)
instance : Ag Tryz.prog 316 4 := ⟨by kernel_rfl, ⟨_, Tryz.underlying316, rfl⟩⟩
instance : Sz Tryz.prog 316 4 := ⟨by kernel_rfl⟩
instance : By Tryz.prog 316 40 := ⟨by kernel_rfl⟩
instance : Zr Tryz.prog 316 (.agg #[.pointer none, .pointer none, .pointer none, .string ByteArray.empty]) := ⟨by kernel_rfl⟩
instance : Zc Tryz.prog 316 [.pointer none, .pointer none, .pointer none, .string ByteArray.empty] := ⟨⟨.agg #[.pointer none, .pointer none, .pointer none, .string ByteArray.empty], by kernel_rfl, rfl⟩⟩
instance : Fi Tryz.prog 316 0 0 17 := ⟨⟨_, _, Tryz.underlying316, rfl, rfl, rfl⟩, ⟨1, by kernel_rfl, by decide⟩⟩
instance : Fi Tryz.prog 316 1 1 17 := ⟨⟨_, _, Tryz.underlying316, rfl, rfl, rfl⟩, ⟨1, by kernel_rfl, by decide⟩⟩
instance : Fi Tryz.prog 316 2 2 17 := ⟨⟨_, _, Tryz.underlying316, rfl, rfl, rfl⟩, ⟨1, by kernel_rfl, by decide⟩⟩
instance : Fi Tryz.prog 316 3 3 9 := ⟨⟨_, _, Tryz.underlying316, rfl, rfl, rfl⟩, ⟨1, by kernel_rfl, by decide⟩⟩
instance : Bd Tryz.prog 316 (fun i : Nat => ([(0, 1), (1, 1), (2, 1), (3, 1)] : List (Nat × Nat))[i]?) (Value.cells (.agg #[.pointer none, .pointer none, .pointer none, .string ByteArray.empty])) := bd_struct Tryz.underlying316 (by kernel_rfl) (by kernel_rfl)
instance : Sz Tryz.prog 317 0 := ⟨by kernel_rfl⟩
instance : By Tryz.prog 317 0 := ⟨by kernel_rfl⟩
instance : Zr Tryz.prog 317 (.agg #[]) := ⟨by kernel_rfl⟩
instance : Zc Tryz.prog 317 [] := ⟨⟨.agg #[], by kernel_rfl, rfl⟩⟩
instance : Arr Tryz.prog 317 0 16 := ⟨Tryz.underlying317⟩
instance : Bd Tryz.prog 317 (fun i => some (i * 1, 1)) (Value.cells (.agg #[])) := bd_array Tryz.underlying317 (by kernel_rfl) (by kernel_rfl)
instance : Sz Tryz.prog 318 0 := ⟨by kernel_rfl⟩
instance : By Tryz.prog 318 0 := ⟨by kernel_rfl⟩
instance : Zr Tryz.prog 318 (.agg #[]) := ⟨by kernel_rfl⟩
instance : Zc Tryz.prog 318 [] := ⟨⟨.agg #[], by kernel_rfl, rfl⟩⟩
instance : Bd Tryz.prog 318 (fun i : Nat => ([(0, 0)] : List (Nat × Nat))[i]?) (Value.cells (.agg #[])) := bd_struct Tryz.underlying318 (by kernel_rfl) (by kernel_rfl)
instance : Sz Tryz.prog 319 0 := ⟨by kernel_rfl⟩
instance : By Tryz.prog 319 0 := ⟨by kernel_rfl⟩
instance : Zr Tryz.prog 319 (.agg #[]) := ⟨by kernel_rfl⟩
instance : Zc Tryz.prog 319 [] := ⟨⟨.agg #[], by kernel_rfl, rfl⟩⟩
instance : Bd Tryz.prog 319 (fun i : Nat => ([(0, 0)] : List (Nat × Nat))[i]?) (Value.cells (.agg #[])) := bd_struct Tryz.underlying319 (by kernel_rfl) (by kernel_rfl)
instance : Sc Tryz.prog 320 := ⟨by kernel_rfl, ⟨_, Tryz.underlying320, rfl⟩⟩
instance : Sz Tryz.prog 320 1 := ⟨by kernel_rfl⟩
instance : By Tryz.prog 320 1 := ⟨by kernel_rfl⟩
instance : Zr Tryz.prog 320 (.int .u8 0) := ⟨by kernel_rfl⟩
instance : Zc Tryz.prog 320 [.int .u8 0] := ⟨⟨.int .u8 0, by kernel_rfl, rfl⟩⟩
instance : Ity Tryz.prog 320 .u8 := ⟨Tryz.underlying320⟩
instance : Sc Tryz.prog 321 := ⟨by kernel_rfl, ⟨_, Tryz.underlying321, rfl⟩⟩
instance : Sz Tryz.prog 321 1 := ⟨by kernel_rfl⟩
instance : By Tryz.prog 321 1 := ⟨by kernel_rfl⟩
instance : Zr Tryz.prog 321 (.int .u8 0) := ⟨by kernel_rfl⟩
instance : Zc Tryz.prog 321 [.int .u8 0] := ⟨⟨.int .u8 0, by kernel_rfl, rfl⟩⟩
instance : Ity Tryz.prog 321 .u8 := ⟨Tryz.underlying321⟩
instance : Sc Tryz.prog 322 := ⟨by kernel_rfl, ⟨_, Tryz.underlying322, rfl⟩⟩
instance : Sz Tryz.prog 322 1 := ⟨by kernel_rfl⟩
instance : By Tryz.prog 322 8 := ⟨by kernel_rfl⟩
instance : Zr Tryz.prog 322 (.nilFunc) := ⟨by kernel_rfl⟩
instance : Zc Tryz.prog 322 [.nilFunc] := ⟨⟨.nilFunc, by kernel_rfl, rfl⟩⟩
instance : Sc Tryz.prog 323 := ⟨by kernel_rfl, ⟨_, Tryz.underlying323, rfl⟩⟩
instance : Sz Tryz.prog 323 1 := ⟨by kernel_rfl⟩
instance : By Tryz.prog 323 4 := ⟨by kernel_rfl⟩
instance : Zr Tryz.prog 323 (.int .i32 0) := ⟨by kernel_rfl⟩
instance : Zc Tryz.prog 323 [.int .i32 0] := ⟨⟨.int .i32 0, by kernel_rfl, rfl⟩⟩
instance : Ity Tryz.prog 323 .i32 := ⟨Tryz.underlying323⟩
instance : Sc Tryz.prog 324 := ⟨by kernel_rfl, ⟨_, Tryz.underlying324, rfl⟩⟩
instance : Sz Tryz.prog 324 1 := ⟨by kernel_rfl⟩
instance : By Tryz.prog 324 4 := ⟨by kernel_rfl⟩
instance : Zr Tryz.prog 324 (.int .i32 0) := ⟨by kernel_rfl⟩
instance : Zc Tryz.prog 324 [.int .i32 0] := ⟨⟨.int .i32 0, by kernel_rfl, rfl⟩⟩
instance : Ity Tryz.prog 324 .i32 := ⟨Tryz.underlying324⟩
instance : Ag Tryz.prog 325 11 := ⟨by kernel_rfl, ⟨_, Tryz.underlying325, rfl⟩⟩
instance : Sz Tryz.prog 325 11 := ⟨by kernel_rfl⟩
instance : By Tryz.prog 325 48 := ⟨by kernel_rfl⟩
instance : Zr Tryz.prog 325 (.agg #[.int .u64 0, .int .u64 0, .int .u32 0, .int .u8 0, .int .u8 0, .int .u8 0, .int .u8 0, .nilFunc, .pointer none, .int .i32 0, .int .i32 0]) := ⟨by kernel_rfl⟩
instance : Zc Tryz.prog 325 [.int .u64 0, .int .u64 0, .int .u32 0, .int .u8 0, .int .u8 0, .int .u8 0, .int .u8 0, .nilFunc, .pointer none, .int .i32 0, .int .i32 0] := ⟨⟨.agg #[.int .u64 0, .int .u64 0, .int .u32 0, .int .u8 0, .int .u8 0, .int .u8 0, .int .u8 0, .nilFunc, .pointer none, .int .i32 0, .int .i32 0], by kernel_rfl, rfl⟩⟩
instance : Fi Tryz.prog 325 0 0 12 := ⟨⟨_, _, Tryz.underlying325, rfl, rfl, rfl⟩, ⟨1, by kernel_rfl, by decide⟩⟩
instance : Fi Tryz.prog 325 1 1 12 := ⟨⟨_, _, Tryz.underlying325, rfl, rfl, rfl⟩, ⟨1, by kernel_rfl, by decide⟩⟩
instance : Fi Tryz.prog 325 2 2 126 := ⟨⟨_, _, Tryz.underlying325, rfl, rfl, rfl⟩, ⟨1, by kernel_rfl, by decide⟩⟩
instance : Fi Tryz.prog 325 3 3 320 := ⟨⟨_, _, Tryz.underlying325, rfl, rfl, rfl⟩, ⟨1, by kernel_rfl, by decide⟩⟩
instance : Fi Tryz.prog 325 4 4 5 := ⟨⟨_, _, Tryz.underlying325, rfl, rfl, rfl⟩, ⟨1, by kernel_rfl, by decide⟩⟩
instance : Fi Tryz.prog 325 5 5 5 := ⟨⟨_, _, Tryz.underlying325, rfl, rfl, rfl⟩, ⟨1, by kernel_rfl, by decide⟩⟩
instance : Fi Tryz.prog 325 6 6 321 := ⟨⟨_, _, Tryz.underlying325, rfl, rfl, rfl⟩, ⟨1, by kernel_rfl, by decide⟩⟩
instance : Fi Tryz.prog 325 7 7 322 := ⟨⟨_, _, Tryz.underlying325, rfl, rfl, rfl⟩, ⟨1, by kernel_rfl, by decide⟩⟩
instance : Fi Tryz.prog 325 8 8 165 := ⟨⟨_, _, Tryz.underlying325, rfl, rfl, rfl⟩, ⟨1, by kernel_rfl, by decide⟩⟩
instance : Fi Tryz.prog 325 9 9 323 := ⟨⟨_, _, Tryz.underlying325, rfl, rfl, rfl⟩, ⟨1, by kernel_rfl, by decide⟩⟩
instance : Fi Tryz.prog 325 10 10 324 := ⟨⟨_, _, Tryz.underlying325, rfl, rfl, rfl⟩, ⟨1, by kernel_rfl, by decide⟩⟩
instance : Bd Tryz.prog 325 (fun i : Nat => ([(0, 1), (1, 1), (2, 1), (3, 1), (4, 1), (5, 1), (6, 1), (7, 1), (8, 1), (9, 1), (10, 1)] : List (Nat × Nat))[i]?) (Value.cells (.agg #[.int .u64 0, .int .u64 0, .int .u32 0, .int .u8 0, .int .u8 0, .int .u8 0, .int .u8 0, .nilFunc, .pointer none, .int .i32 0, .int .i32 0])) := bd_struct Tryz.underlying325 (by kernel_rfl) (by kernel_rfl)
instance : Ag Tryz.prog 326 11 := ⟨by kernel_rfl, ⟨_, Tryz.underlying326, rfl⟩⟩
instance : Sz Tryz.prog 326 11 := ⟨by kernel_rfl⟩
instance : By Tryz.prog 326 48 := ⟨by kernel_rfl⟩
instance : Zr Tryz.prog 326 (.agg #[.int .u64 0, .int .u64 0, .int .u32 0, .int .u8 0, .int .u8 0, .int .u8 0, .int .u8 0, .nilFunc, .pointer none, .int .i32 0, .int .i32 0]) := ⟨by kernel_rfl⟩
instance : Zc Tryz.prog 326 [.int .u64 0, .int .u64 0, .int .u32 0, .int .u8 0, .int .u8 0, .int .u8 0, .int .u8 0, .nilFunc, .pointer none, .int .i32 0, .int .i32 0] := ⟨⟨.agg #[.int .u64 0, .int .u64 0, .int .u32 0, .int .u8 0, .int .u8 0, .int .u8 0, .int .u8 0, .nilFunc, .pointer none, .int .i32 0, .int .i32 0], by kernel_rfl, rfl⟩⟩
instance : Fi Tryz.prog 326 0 0 12 := ⟨⟨_, _, Tryz.underlying326, rfl, rfl, rfl⟩, ⟨1, by kernel_rfl, by decide⟩⟩
instance : Fi Tryz.prog 326 1 1 12 := ⟨⟨_, _, Tryz.underlying326, rfl, rfl, rfl⟩, ⟨1, by kernel_rfl, by decide⟩⟩
instance : Fi Tryz.prog 326 2 2 126 := ⟨⟨_, _, Tryz.underlying326, rfl, rfl, rfl⟩, ⟨1, by kernel_rfl, by decide⟩⟩
instance : Fi Tryz.prog 326 3 3 320 := ⟨⟨_, _, Tryz.underlying326, rfl, rfl, rfl⟩, ⟨1, by kernel_rfl, by decide⟩⟩
instance : Fi Tryz.prog 326 4 4 5 := ⟨⟨_, _, Tryz.underlying326, rfl, rfl, rfl⟩, ⟨1, by kernel_rfl, by decide⟩⟩
instance : Fi Tryz.prog 326 5 5 5 := ⟨⟨_, _, Tryz.underlying326, rfl, rfl, rfl⟩, ⟨1, by kernel_rfl, by decide⟩⟩
instance : Fi Tryz.prog 326 6 6 321 := ⟨⟨_, _, Tryz.underlying326, rfl, rfl, rfl⟩, ⟨1, by kernel_rfl, by decide⟩⟩
instance : Fi Tryz.prog 326 7 7 322 := ⟨⟨_, _, Tryz.underlying326, rfl, rfl, rfl⟩, ⟨1, by kernel_rfl, by decide⟩⟩
instance : Fi Tryz.prog 326 8 8 165 := ⟨⟨_, _, Tryz.underlying326, rfl, rfl, rfl⟩, ⟨1, by kernel_rfl, by decide⟩⟩
instance : Fi Tryz.prog 326 9 9 323 := ⟨⟨_, _, Tryz.underlying326, rfl, rfl, rfl⟩, ⟨1, by kernel_rfl, by decide⟩⟩
instance : Fi Tryz.prog 326 10 10 324 := ⟨⟨_, _, Tryz.underlying326, rfl, rfl, rfl⟩, ⟨1, by kernel_rfl, by decide⟩⟩
instance : Bd Tryz.prog 326 (fun i : Nat => ([(0, 1), (1, 1), (2, 1), (3, 1), (4, 1), (5, 1), (6, 1), (7, 1), (8, 1), (9, 1), (10, 1)] : List (Nat × Nat))[i]?) (Value.cells (.agg #[.int .u64 0, .int .u64 0, .int .u32 0, .int .u8 0, .int .u8 0, .int .u8 0, .int .u8 0, .nilFunc, .pointer none, .int .i32 0, .int .i32 0])) := bd_struct Tryz.underlying326 (by kernel_rfl) (by kernel_rfl)
instance : Sc Tryz.prog 327 := ⟨by kernel_rfl, ⟨_, Tryz.underlying327, rfl⟩⟩
instance : Sz Tryz.prog 327 1 := ⟨by kernel_rfl⟩
instance : By Tryz.prog 327 8 := ⟨by kernel_rfl⟩
instance : Zr Tryz.prog 327 (.nilFunc) := ⟨by kernel_rfl⟩
instance : Zc Tryz.prog 327 [.nilFunc] := ⟨⟨.nilFunc, by kernel_rfl, rfl⟩⟩
instance : Sc Tryz.prog 328 := ⟨by kernel_rfl, ⟨_, Tryz.underlying328, rfl⟩⟩
instance : Sz Tryz.prog 328 1 := ⟨by kernel_rfl⟩
instance : By Tryz.prog 328 8 := ⟨by kernel_rfl⟩
instance : Zr Tryz.prog 328 (.nilFunc) := ⟨by kernel_rfl⟩
instance : Zc Tryz.prog 328 [.nilFunc] := ⟨⟨.nilFunc, by kernel_rfl, rfl⟩⟩
instance : Sc Tryz.prog 329 := ⟨by kernel_rfl, ⟨_, Tryz.underlying329, rfl⟩⟩
instance : Sz Tryz.prog 329 1 := ⟨by kernel_rfl⟩
instance : By Tryz.prog 329 8 := ⟨by kernel_rfl⟩
instance : Zr Tryz.prog 329 (.nilFunc) := ⟨by kernel_rfl⟩
instance : Zc Tryz.prog 329 [.nilFunc] := ⟨⟨.nilFunc, by kernel_rfl, rfl⟩⟩
instance : Sc Tryz.prog 330 := ⟨by kernel_rfl, ⟨_, Tryz.underlying330, rfl⟩⟩
instance : Sz Tryz.prog 330 1 := ⟨by kernel_rfl⟩
instance : By Tryz.prog 330 8 := ⟨by kernel_rfl⟩
instance : Zr Tryz.prog 330 (.nilFunc) := ⟨by kernel_rfl⟩
instance : Zc Tryz.prog 330 [.nilFunc] := ⟨⟨.nilFunc, by kernel_rfl, rfl⟩⟩
instance : Sc Tryz.prog 331 := ⟨by kernel_rfl, ⟨_, Tryz.underlying331, rfl⟩⟩
instance : Sz Tryz.prog 331 1 := ⟨by kernel_rfl⟩
instance : By Tryz.prog 331 8 := ⟨by kernel_rfl⟩
instance : Zr Tryz.prog 331 (.nilFunc) := ⟨by kernel_rfl⟩
instance : Zc Tryz.prog 331 [.nilFunc] := ⟨⟨.nilFunc, by kernel_rfl, rfl⟩⟩
instance : Sc Tryz.prog 332 := ⟨by kernel_rfl, ⟨_, Tryz.underlying332, rfl⟩⟩
instance : Sz Tryz.prog 332 1 := ⟨by kernel_rfl⟩
instance : By Tryz.prog 332 8 := ⟨by kernel_rfl⟩
instance : Zr Tryz.prog 332 (.nilFunc) := ⟨by kernel_rfl⟩
instance : Zc Tryz.prog 332 [.nilFunc] := ⟨⟨.nilFunc, by kernel_rfl, rfl⟩⟩
instance : Ag Tryz.prog 333 2 := ⟨by kernel_rfl, ⟨_, Tryz.underlying333, rfl⟩⟩
instance : Sz Tryz.prog 333 2 := ⟨by kernel_rfl⟩
instance : By Tryz.prog 333 24 := ⟨by kernel_rfl⟩
instance : Zr Tryz.prog 333 (.agg #[.string ByteArray.empty, .int .u8 0]) := ⟨by kernel_rfl⟩
instance : Zc Tryz.prog 333 [.string ByteArray.empty, .int .u8 0] := ⟨⟨.agg #[.string ByteArray.empty, .int .u8 0], by kernel_rfl, rfl⟩⟩
instance : Fi Tryz.prog 333 0 0 9 := ⟨⟨_, _, Tryz.underlying333, rfl, rfl, rfl⟩, ⟨1, by kernel_rfl, by decide⟩⟩
instance : Fi Tryz.prog 333 1 1 321 := ⟨⟨_, _, Tryz.underlying333, rfl, rfl, rfl⟩, ⟨1, by kernel_rfl, by decide⟩⟩
instance : Bd Tryz.prog 333 (fun i : Nat => ([(0, 1), (1, 1)] : List (Nat × Nat))[i]?) (Value.cells (.agg #[.string ByteArray.empty, .int .u8 0])) := bd_struct Tryz.underlying333 (by kernel_rfl) (by kernel_rfl)
instance : Ag Tryz.prog 334 2 := ⟨by kernel_rfl, ⟨_, Tryz.underlying334, rfl⟩⟩
instance : Sz Tryz.prog 334 2 := ⟨by kernel_rfl⟩
instance : By Tryz.prog 334 24 := ⟨by kernel_rfl⟩
instance : Zr Tryz.prog 334 (.agg #[.string ByteArray.empty, .int .u8 0]) := ⟨by kernel_rfl⟩
instance : Zc Tryz.prog 334 [.string ByteArray.empty, .int .u8 0] := ⟨⟨.agg #[.string ByteArray.empty, .int .u8 0], by kernel_rfl, rfl⟩⟩
instance : Fi Tryz.prog 334 0 0 9 := ⟨⟨_, _, Tryz.underlying334, rfl, rfl, rfl⟩, ⟨1, by kernel_rfl, by decide⟩⟩
instance : Fi Tryz.prog 334 1 1 321 := ⟨⟨_, _, Tryz.underlying334, rfl, rfl, rfl⟩, ⟨1, by kernel_rfl, by decide⟩⟩
instance : Bd Tryz.prog 334 (fun i : Nat => ([(0, 1), (1, 1)] : List (Nat × Nat))[i]?) (Value.cells (.agg #[.string ByteArray.empty, .int .u8 0])) := bd_struct Tryz.underlying334 (by kernel_rfl) (by kernel_rfl)
instance : Ag Tryz.prog 335 1 := ⟨by kernel_rfl, ⟨_, Tryz.underlying335, rfl⟩⟩
instance : Sz Tryz.prog 335 1 := ⟨by kernel_rfl⟩
instance : By Tryz.prog 335 16 := ⟨by kernel_rfl⟩
instance : Zr Tryz.prog 335 (.agg #[.string ByteArray.empty]) := ⟨by kernel_rfl⟩
instance : Zc Tryz.prog 335 [.string ByteArray.empty] := ⟨⟨.agg #[.string ByteArray.empty], by kernel_rfl, rfl⟩⟩
instance : Fi Tryz.prog 335 0 0 9 := ⟨⟨_, _, Tryz.underlying335, rfl, rfl, rfl⟩, ⟨1, by kernel_rfl, by decide⟩⟩
instance : Bd Tryz.prog 335 (fun i : Nat => ([(0, 1)] : List (Nat × Nat))[i]?) (Value.cells (.agg #[.string ByteArray.empty])) := bd_struct Tryz.underlying335 (by kernel_rfl) (by kernel_rfl)
instance : Ag Tryz.prog 336 1 := ⟨by kernel_rfl, ⟨_, Tryz.underlying336, rfl⟩⟩
instance : Sz Tryz.prog 336 1 := ⟨by kernel_rfl⟩
instance : By Tryz.prog 336 16 := ⟨by kernel_rfl⟩
instance : Zr Tryz.prog 336 (.agg #[.string ByteArray.empty]) := ⟨by kernel_rfl⟩
instance : Zc Tryz.prog 336 [.string ByteArray.empty] := ⟨⟨.agg #[.string ByteArray.empty], by kernel_rfl, rfl⟩⟩
instance : Fi Tryz.prog 336 0 0 9 := ⟨⟨_, _, Tryz.underlying336, rfl, rfl, rfl⟩, ⟨1, by kernel_rfl, by decide⟩⟩
instance : Bd Tryz.prog 336 (fun i : Nat => ([(0, 1)] : List (Nat × Nat))[i]?) (Value.cells (.agg #[.string ByteArray.empty])) := bd_struct Tryz.underlying336 (by kernel_rfl) (by kernel_rfl)
instance : Sc Tryz.prog 337 := ⟨by kernel_rfl, ⟨_, Tryz.underlying337, rfl⟩⟩
instance : Sz Tryz.prog 337 1 := ⟨by kernel_rfl⟩
instance : By Tryz.prog 337 8 := ⟨by kernel_rfl⟩
instance : Zr Tryz.prog 337 (.pointer none) := ⟨by kernel_rfl⟩
instance : Zc Tryz.prog 337 [.pointer none] := ⟨⟨.pointer none, by kernel_rfl, rfl⟩⟩
instance : Sc Tryz.prog 338 := ⟨by kernel_rfl, ⟨_, Tryz.underlying338, rfl⟩⟩
instance : Sz Tryz.prog 338 1 := ⟨by kernel_rfl⟩
instance : By Tryz.prog 338 8 := ⟨by kernel_rfl⟩
instance : Zr Tryz.prog 338 (.nilFunc) := ⟨by kernel_rfl⟩
instance : Zc Tryz.prog 338 [.nilFunc] := ⟨⟨.nilFunc, by kernel_rfl, rfl⟩⟩
instance : Sc Tryz.prog 339 := ⟨by kernel_rfl, ⟨_, Tryz.underlying339, rfl⟩⟩
instance : Sz Tryz.prog 339 1 := ⟨by kernel_rfl⟩
instance : By Tryz.prog 339 2 := ⟨by kernel_rfl⟩
instance : Zr Tryz.prog 339 (.int .u16 0) := ⟨by kernel_rfl⟩
instance : Zc Tryz.prog 339 [.int .u16 0] := ⟨⟨.int .u16 0, by kernel_rfl, rfl⟩⟩
instance : Ity Tryz.prog 339 .u16 := ⟨Tryz.underlying339⟩
instance : Ag Tryz.prog 340 5 := ⟨by kernel_rfl, ⟨_, Tryz.underlying340, rfl⟩⟩
instance : Sz Tryz.prog 340 5 := ⟨by kernel_rfl⟩
instance : By Tryz.prog 340 16 := ⟨by kernel_rfl⟩
instance : Zr Tryz.prog 340 (.agg #[.int .i32 0, .int .u16 0, .int .u16 0, .int .u32 0, .int .u32 0]) := ⟨by kernel_rfl⟩
instance : Zc Tryz.prog 340 [.int .i32 0, .int .u16 0, .int .u16 0, .int .u32 0, .int .u32 0] := ⟨⟨.agg #[.int .i32 0, .int .u16 0, .int .u16 0, .int .u32 0, .int .u32 0], by kernel_rfl, rfl⟩⟩
instance : Fi Tryz.prog 340 0 0 323 := ⟨⟨_, _, Tryz.underlying340, rfl, rfl, rfl⟩, ⟨1, by kernel_rfl, by decide⟩⟩
instance : Fi Tryz.prog 340 1 1 339 := ⟨⟨_, _, Tryz.underlying340, rfl, rfl, rfl⟩, ⟨1, by kernel_rfl, by decide⟩⟩
instance : Fi Tryz.prog 340 2 2 339 := ⟨⟨_, _, Tryz.underlying340, rfl, rfl, rfl⟩, ⟨1, by kernel_rfl, by decide⟩⟩
instance : Fi Tryz.prog 340 3 3 126 := ⟨⟨_, _, Tryz.underlying340, rfl, rfl, rfl⟩, ⟨1, by kernel_rfl, by decide⟩⟩
instance : Fi Tryz.prog 340 4 4 126 := ⟨⟨_, _, Tryz.underlying340, rfl, rfl, rfl⟩, ⟨1, by kernel_rfl, by decide⟩⟩
instance : Bd Tryz.prog 340 (fun i : Nat => ([(0, 1), (1, 1), (2, 1), (3, 1), (4, 1)] : List (Nat × Nat))[i]?) (Value.cells (.agg #[.int .i32 0, .int .u16 0, .int .u16 0, .int .u32 0, .int .u32 0])) := bd_struct Tryz.underlying340 (by kernel_rfl) (by kernel_rfl)
instance : Ag Tryz.prog 341 5 := ⟨by kernel_rfl, ⟨_, Tryz.underlying341, rfl⟩⟩
instance : Sz Tryz.prog 341 5 := ⟨by kernel_rfl⟩
instance : By Tryz.prog 341 16 := ⟨by kernel_rfl⟩
instance : Zr Tryz.prog 341 (.agg #[.int .i32 0, .int .u16 0, .int .u16 0, .int .u32 0, .int .u32 0]) := ⟨by kernel_rfl⟩
instance : Zc Tryz.prog 341 [.int .i32 0, .int .u16 0, .int .u16 0, .int .u32 0, .int .u32 0] := ⟨⟨.agg #[.int .i32 0, .int .u16 0, .int .u16 0, .int .u32 0, .int .u32 0], by kernel_rfl, rfl⟩⟩
instance : Fi Tryz.prog 341 0 0 323 := ⟨⟨_, _, Tryz.underlying341, rfl, rfl, rfl⟩, ⟨1, by kernel_rfl, by decide⟩⟩
instance : Fi Tryz.prog 341 1 1 339 := ⟨⟨_, _, Tryz.underlying341, rfl, rfl, rfl⟩, ⟨1, by kernel_rfl, by decide⟩⟩
instance : Fi Tryz.prog 341 2 2 339 := ⟨⟨_, _, Tryz.underlying341, rfl, rfl, rfl⟩, ⟨1, by kernel_rfl, by decide⟩⟩
instance : Fi Tryz.prog 341 3 3 126 := ⟨⟨_, _, Tryz.underlying341, rfl, rfl, rfl⟩, ⟨1, by kernel_rfl, by decide⟩⟩
instance : Fi Tryz.prog 341 4 4 126 := ⟨⟨_, _, Tryz.underlying341, rfl, rfl, rfl⟩, ⟨1, by kernel_rfl, by decide⟩⟩
instance : Bd Tryz.prog 341 (fun i : Nat => ([(0, 1), (1, 1), (2, 1), (3, 1), (4, 1)] : List (Nat × Nat))[i]?) (Value.cells (.agg #[.int .i32 0, .int .u16 0, .int .u16 0, .int .u32 0, .int .u32 0])) := bd_struct Tryz.underlying341 (by kernel_rfl) (by kernel_rfl)
instance : Sc Tryz.prog 342 := ⟨by kernel_rfl, ⟨_, Tryz.underlying342, rfl⟩⟩
instance : Sz Tryz.prog 342 1 := ⟨by kernel_rfl⟩
instance : By Tryz.prog 342 24 := ⟨by kernel_rfl⟩
instance : Zr Tryz.prog 342 (.slice none 0 0) := ⟨by kernel_rfl⟩
instance : Zc Tryz.prog 342 [.slice none 0 0] := ⟨⟨.slice none 0 0, by kernel_rfl, rfl⟩⟩
instance : Sli Tryz.prog 342 345 := ⟨Tryz.underlying342⟩
instance : Sc Tryz.prog 343 := ⟨by kernel_rfl, ⟨_, Tryz.underlying343, rfl⟩⟩
instance : Sz Tryz.prog 343 1 := ⟨by kernel_rfl⟩
instance : By Tryz.prog 343 4 := ⟨by kernel_rfl⟩
instance : Zr Tryz.prog 343 (.int .i32 0) := ⟨by kernel_rfl⟩
instance : Zc Tryz.prog 343 [.int .i32 0] := ⟨⟨.int .i32 0, by kernel_rfl, rfl⟩⟩
instance : Ity Tryz.prog 343 .i32 := ⟨Tryz.underlying343⟩
instance : Ag Tryz.prog 344 4 := ⟨by kernel_rfl, ⟨_, Tryz.underlying344, rfl⟩⟩
instance : Sz Tryz.prog 344 4 := ⟨by kernel_rfl⟩
instance : By Tryz.prog 344 16 := ⟨by kernel_rfl⟩
instance : Zr Tryz.prog 344 (.agg #[.int .i32 0, .int .i32 0, .int .i32 0, .int .i32 0]) := ⟨by kernel_rfl⟩
instance : Zc Tryz.prog 344 [.int .i32 0, .int .i32 0, .int .i32 0, .int .i32 0] := ⟨⟨.agg #[.int .i32 0, .int .i32 0, .int .i32 0, .int .i32 0], by kernel_rfl, rfl⟩⟩
instance : Fi Tryz.prog 344 0 0 323 := ⟨⟨_, _, Tryz.underlying344, rfl, rfl, rfl⟩, ⟨1, by kernel_rfl, by decide⟩⟩
instance : Fi Tryz.prog 344 1 1 324 := ⟨⟨_, _, Tryz.underlying344, rfl, rfl, rfl⟩, ⟨1, by kernel_rfl, by decide⟩⟩
instance : Fi Tryz.prog 344 2 2 343 := ⟨⟨_, _, Tryz.underlying344, rfl, rfl, rfl⟩, ⟨1, by kernel_rfl, by decide⟩⟩
instance : Fi Tryz.prog 344 3 3 343 := ⟨⟨_, _, Tryz.underlying344, rfl, rfl, rfl⟩, ⟨1, by kernel_rfl, by decide⟩⟩
instance : Bd Tryz.prog 344 (fun i : Nat => ([(0, 1), (1, 1), (2, 1), (3, 1)] : List (Nat × Nat))[i]?) (Value.cells (.agg #[.int .i32 0, .int .i32 0, .int .i32 0, .int .i32 0])) := bd_struct Tryz.underlying344 (by kernel_rfl) (by kernel_rfl)
instance : Ag Tryz.prog 345 4 := ⟨by kernel_rfl, ⟨_, Tryz.underlying345, rfl⟩⟩
instance : Sz Tryz.prog 345 4 := ⟨by kernel_rfl⟩
instance : By Tryz.prog 345 16 := ⟨by kernel_rfl⟩
instance : Zr Tryz.prog 345 (.agg #[.int .i32 0, .int .i32 0, .int .i32 0, .int .i32 0]) := ⟨by kernel_rfl⟩
instance : Zc Tryz.prog 345 [.int .i32 0, .int .i32 0, .int .i32 0, .int .i32 0] := ⟨⟨.agg #[.int .i32 0, .int .i32 0, .int .i32 0, .int .i32 0], by kernel_rfl, rfl⟩⟩
instance : Fi Tryz.prog 345 0 0 323 := ⟨⟨_, _, Tryz.underlying345, rfl, rfl, rfl⟩, ⟨1, by kernel_rfl, by decide⟩⟩
instance : Fi Tryz.prog 345 1 1 324 := ⟨⟨_, _, Tryz.underlying345, rfl, rfl, rfl⟩, ⟨1, by kernel_rfl, by decide⟩⟩
instance : Fi Tryz.prog 345 2 2 343 := ⟨⟨_, _, Tryz.underlying345, rfl, rfl, rfl⟩, ⟨1, by kernel_rfl, by decide⟩⟩
instance : Fi Tryz.prog 345 3 3 343 := ⟨⟨_, _, Tryz.underlying345, rfl, rfl, rfl⟩, ⟨1, by kernel_rfl, by decide⟩⟩
instance : Bd Tryz.prog 345 (fun i : Nat => ([(0, 1), (1, 1), (2, 1), (3, 1)] : List (Nat × Nat))[i]?) (Value.cells (.agg #[.int .i32 0, .int .i32 0, .int .i32 0, .int .i32 0])) := bd_struct Tryz.underlying345 (by kernel_rfl) (by kernel_rfl)
instance : Sc Tryz.prog 346 := ⟨by kernel_rfl, ⟨_, Tryz.underlying346, rfl⟩⟩
instance : Sz Tryz.prog 346 1 := ⟨by kernel_rfl⟩
instance : By Tryz.prog 346 8 := ⟨by kernel_rfl⟩
instance : Zr Tryz.prog 346 (.nilFunc) := ⟨by kernel_rfl⟩
instance : Zc Tryz.prog 346 [.nilFunc] := ⟨⟨.nilFunc, by kernel_rfl, rfl⟩⟩
instance : Sc Tryz.prog 347 := ⟨by kernel_rfl, ⟨_, Tryz.underlying347, rfl⟩⟩
instance : Sz Tryz.prog 347 1 := ⟨by kernel_rfl⟩
instance : By Tryz.prog 347 8 := ⟨by kernel_rfl⟩
instance : Zr Tryz.prog 347 (.nilFunc) := ⟨by kernel_rfl⟩
instance : Zc Tryz.prog 347 [.nilFunc] := ⟨⟨.nilFunc, by kernel_rfl, rfl⟩⟩
instance : Mx Tryz.prog := ⟨by kernel_rfl⟩
instance : Fun Tryz.prog 3 := ⟨fun _ _ => by kernel_rfl⟩
instance : Fun Tryz.prog 4 := ⟨fun _ _ => by kernel_rfl⟩
instance : Fun Tryz.prog 5 := ⟨fun _ _ => by kernel_rfl⟩
instance : Fun Tryz.prog 6 := ⟨fun _ _ => by kernel_rfl⟩
instance : Fun Tryz.prog 7 := ⟨fun _ _ => by kernel_rfl⟩
instance : Fun Tryz.prog 8 := ⟨fun _ _ => by kernel_rfl⟩
instance : Fun Tryz.prog 9 := ⟨fun _ _ => by kernel_rfl⟩
instance : Fun Tryz.prog 10 := ⟨fun _ _ => by kernel_rfl⟩
instance : Fun Tryz.prog 11 := ⟨fun _ _ => by kernel_rfl⟩
instance : Fun Tryz.prog 12 := ⟨fun _ _ => by kernel_rfl⟩
instance : Fun Tryz.prog 13 := ⟨fun _ _ => by kernel_rfl⟩
instance : Fun Tryz.prog 14 := ⟨fun _ _ => by kernel_rfl⟩
instance : Fun Tryz.prog 15 := ⟨fun _ _ => by kernel_rfl⟩
instance : Fun Tryz.prog 16 := ⟨fun _ _ => by kernel_rfl⟩
instance : Fun Tryz.prog 17 := ⟨fun _ _ => by kernel_rfl⟩
instance : Fun Tryz.prog 18 := ⟨fun _ _ => by kernel_rfl⟩
instance : Fun Tryz.prog 19 := ⟨fun _ _ => by kernel_rfl⟩
instance : Fun Tryz.prog 20 := ⟨fun _ _ => by kernel_rfl⟩
instance : Fun Tryz.prog 21 := ⟨fun _ _ => by kernel_rfl⟩
instance : Fun Tryz.prog 22 := ⟨fun _ _ => by kernel_rfl⟩
instance : Fun Tryz.prog 23 := ⟨fun _ _ => by kernel_rfl⟩
instance : Fun Tryz.prog 24 := ⟨fun _ _ => by kernel_rfl⟩
instance : Fun Tryz.prog 25 := ⟨fun _ _ => by kernel_rfl⟩
instance : Fun Tryz.prog 26 := ⟨fun _ _ => by kernel_rfl⟩
instance : Fun Tryz.prog 27 := ⟨fun _ _ => by kernel_rfl⟩
instance : Fun Tryz.prog 28 := ⟨fun _ _ => by kernel_rfl⟩
instance : Fun Tryz.prog 29 := ⟨fun _ _ => by kernel_rfl⟩
instance : Fun Tryz.prog 30 := ⟨fun _ _ => by kernel_rfl⟩
instance : Fun Tryz.prog 31 := ⟨fun _ _ => by kernel_rfl⟩
instance : Fun Tryz.prog 32 := ⟨fun _ _ => by kernel_rfl⟩
instance : Fun Tryz.prog 33 := ⟨fun _ _ => by kernel_rfl⟩
instance : Fun Tryz.prog 34 := ⟨fun _ _ => by kernel_rfl⟩
instance : Fun Tryz.prog 35 := ⟨fun _ _ => by kernel_rfl⟩
instance : Fun Tryz.prog 36 := ⟨fun _ _ => by kernel_rfl⟩
instance : Fun Tryz.prog 37 := ⟨fun _ _ => by kernel_rfl⟩
instance : Fun Tryz.prog 38 := ⟨fun _ _ => by kernel_rfl⟩
instance : Fun Tryz.prog 39 := ⟨fun _ _ => by kernel_rfl⟩
instance : Fun Tryz.prog 40 := ⟨fun _ _ => by kernel_rfl⟩
instance : Fun Tryz.prog 41 := ⟨fun _ _ => by kernel_rfl⟩
instance : Fun Tryz.prog 42 := ⟨fun _ _ => by kernel_rfl⟩
instance : Fun Tryz.prog 43 := ⟨fun _ _ => by kernel_rfl⟩
instance : Fun Tryz.prog 44 := ⟨fun _ _ => by kernel_rfl⟩
instance : Fun Tryz.prog 45 := ⟨fun _ _ => by kernel_rfl⟩
instance : Fun Tryz.prog 46 := ⟨fun _ _ => by kernel_rfl⟩
instance : Fun Tryz.prog 47 := ⟨fun _ _ => by kernel_rfl⟩
instance : Fun Tryz.prog 48 := ⟨fun _ _ => by kernel_rfl⟩
instance : Fun Tryz.prog 49 := ⟨fun _ _ => by kernel_rfl⟩
instance : Fun Tryz.prog 50 := ⟨fun _ _ => by kernel_rfl⟩
instance : Fun Tryz.prog 51 := ⟨fun _ _ => by kernel_rfl⟩
instance : Fun Tryz.prog 52 := ⟨fun _ _ => by kernel_rfl⟩
instance : Fun Tryz.prog 53 := ⟨fun _ _ => by kernel_rfl⟩
instance : Fun Tryz.prog 54 := ⟨fun _ _ => by kernel_rfl⟩
instance : Fun Tryz.prog 55 := ⟨fun _ _ => by kernel_rfl⟩
instance : Fun Tryz.prog 56 := ⟨fun _ _ => by kernel_rfl⟩
instance : Fun Tryz.prog 57 := ⟨fun _ _ => by kernel_rfl⟩
instance : Fun Tryz.prog 58 := ⟨fun _ _ => by kernel_rfl⟩
instance : Fun Tryz.prog 59 := ⟨fun _ _ => by kernel_rfl⟩
instance : Fun Tryz.prog 60 := ⟨fun _ _ => by kernel_rfl⟩
instance : Fun Tryz.prog 61 := ⟨fun _ _ => by kernel_rfl⟩
instance : Fun Tryz.prog 62 := ⟨fun _ _ => by kernel_rfl⟩
instance : Fun Tryz.prog 63 := ⟨fun _ _ => by kernel_rfl⟩
instance : Fun Tryz.prog 64 := ⟨fun _ _ => by kernel_rfl⟩
instance : Fun Tryz.prog 65 := ⟨fun _ _ => by kernel_rfl⟩
instance : Fun Tryz.prog 66 := ⟨fun _ _ => by kernel_rfl⟩
instance : Fun Tryz.prog 67 := ⟨fun _ _ => by kernel_rfl⟩
instance : Fun Tryz.prog 68 := ⟨fun _ _ => by kernel_rfl⟩
instance : Fun Tryz.prog 69 := ⟨fun _ _ => by kernel_rfl⟩
instance : Fun Tryz.prog 70 := ⟨fun _ _ => by kernel_rfl⟩
instance : Fun Tryz.prog 71 := ⟨fun _ _ => by kernel_rfl⟩
instance : Fun Tryz.prog 72 := ⟨fun _ _ => by kernel_rfl⟩
instance : Fun Tryz.prog 73 := ⟨fun _ _ => by kernel_rfl⟩
instance : Fun Tryz.prog 74 := ⟨fun _ _ => by kernel_rfl⟩
instance : Fun Tryz.prog 75 := ⟨fun _ _ => by kernel_rfl⟩
instance : Fun Tryz.prog 76 := ⟨fun _ _ => by kernel_rfl⟩
instance : Fun Tryz.prog 77 := ⟨fun _ _ => by kernel_rfl⟩
instance : Fun Tryz.prog 78 := ⟨fun _ _ => by kernel_rfl⟩
instance : Fun Tryz.prog 79 := ⟨fun _ _ => by kernel_rfl⟩
instance : Fun Tryz.prog 80 := ⟨fun _ _ => by kernel_rfl⟩
instance : Fun Tryz.prog 81 := ⟨fun _ _ => by kernel_rfl⟩
instance : Fun Tryz.prog 82 := ⟨fun _ _ => by kernel_rfl⟩
instance : Fun Tryz.prog 83 := ⟨fun _ _ => by kernel_rfl⟩
instance : Fun Tryz.prog 84 := ⟨fun _ _ => by kernel_rfl⟩
instance : Fun Tryz.prog 85 := ⟨fun _ _ => by kernel_rfl⟩
instance : Fun Tryz.prog 86 := ⟨fun _ _ => by kernel_rfl⟩
instance : Fun Tryz.prog 87 := ⟨fun _ _ => by kernel_rfl⟩
instance : Fun Tryz.prog 88 := ⟨fun _ _ => by kernel_rfl⟩
instance : Fun Tryz.prog 89 := ⟨fun _ _ => by kernel_rfl⟩
instance : Fun Tryz.prog 90 := ⟨fun _ _ => by kernel_rfl⟩
instance : Fun Tryz.prog 91 := ⟨fun _ _ => by kernel_rfl⟩
instance : Fun Tryz.prog 92 := ⟨fun _ _ => by kernel_rfl⟩
instance : Fun Tryz.prog 93 := ⟨fun _ _ => by kernel_rfl⟩
instance : Fun Tryz.prog 94 := ⟨fun _ _ => by kernel_rfl⟩
instance : Fun Tryz.prog 95 := ⟨fun _ _ => by kernel_rfl⟩
instance : Fun Tryz.prog 96 := ⟨fun _ _ => by kernel_rfl⟩
instance : Fun Tryz.prog 97 := ⟨fun _ _ => by kernel_rfl⟩
instance : Fun Tryz.prog 98 := ⟨fun _ _ => by kernel_rfl⟩
instance : Fun Tryz.prog 99 := ⟨fun _ _ => by kernel_rfl⟩
instance : Fun Tryz.prog 100 := ⟨fun _ _ => by kernel_rfl⟩
instance : Fun Tryz.prog 101 := ⟨fun _ _ => by kernel_rfl⟩
instance : Fun Tryz.prog 102 := ⟨fun _ _ => by kernel_rfl⟩
instance : Fun Tryz.prog 103 := ⟨fun _ _ => by kernel_rfl⟩
instance : Fun Tryz.prog 104 := ⟨fun _ _ => by kernel_rfl⟩
instance : Fun Tryz.prog 105 := ⟨fun _ _ => by kernel_rfl⟩
instance : Fun Tryz.prog 106 := ⟨fun _ _ => by kernel_rfl⟩
instance : Fun Tryz.prog 107 := ⟨fun _ _ => by kernel_rfl⟩
instance : Fun Tryz.prog 108 := ⟨fun _ _ => by kernel_rfl⟩
instance : Fun Tryz.prog 109 := ⟨fun _ _ => by kernel_rfl⟩
instance : Fun Tryz.prog 110 := ⟨fun _ _ => by kernel_rfl⟩
instance : Fun Tryz.prog 111 := ⟨fun _ _ => by kernel_rfl⟩
instance : Fun Tryz.prog 112 := ⟨fun _ _ => by kernel_rfl⟩
instance : Fun Tryz.prog 113 := ⟨fun _ _ => by kernel_rfl⟩
instance : Fun Tryz.prog 114 := ⟨fun _ _ => by kernel_rfl⟩
instance : Fun Tryz.prog 115 := ⟨fun _ _ => by kernel_rfl⟩
instance : Fun Tryz.prog 116 := ⟨fun _ _ => by kernel_rfl⟩
instance : Fun Tryz.prog 117 := ⟨fun _ _ => by kernel_rfl⟩
instance : Fun Tryz.prog 118 := ⟨fun _ _ => by kernel_rfl⟩
instance : Fun Tryz.prog 119 := ⟨fun _ _ => by kernel_rfl⟩
instance : Fun Tryz.prog 120 := ⟨fun _ _ => by kernel_rfl⟩
instance : Fun Tryz.prog 121 := ⟨fun _ _ => by kernel_rfl⟩
instance : Fun Tryz.prog 122 := ⟨fun _ _ => by kernel_rfl⟩
instance : Fun Tryz.prog 123 := ⟨fun _ _ => by kernel_rfl⟩
instance : Fun Tryz.prog 124 := ⟨fun _ _ => by kernel_rfl⟩
instance : Fun Tryz.prog 125 := ⟨fun _ _ => by kernel_rfl⟩
instance : Fun Tryz.prog 126 := ⟨fun _ _ => by kernel_rfl⟩
instance : Fun Tryz.prog 127 := ⟨fun _ _ => by kernel_rfl⟩
instance : Fun Tryz.prog 128 := ⟨fun _ _ => by kernel_rfl⟩
instance : Fun Tryz.prog 129 := ⟨fun _ _ => by kernel_rfl⟩
instance : Fun Tryz.prog 130 := ⟨fun _ _ => by kernel_rfl⟩
instance : Fun Tryz.prog 131 := ⟨fun _ _ => by kernel_rfl⟩
instance : Fun Tryz.prog 132 := ⟨fun _ _ => by kernel_rfl⟩
instance : Fun Tryz.prog 133 := ⟨fun _ _ => by kernel_rfl⟩
instance : Fun Tryz.prog 134 := ⟨fun _ _ => by kernel_rfl⟩
instance : Fun Tryz.prog 136 := ⟨fun _ _ => by kernel_rfl⟩
instance : Fun Tryz.prog 137 := ⟨fun _ _ => by kernel_rfl⟩
instance : Fun Tryz.prog 139 := ⟨fun _ _ => by kernel_rfl⟩
instance : Fun Tryz.prog 140 := ⟨fun _ _ => by kernel_rfl⟩
instance : Fun Tryz.prog 141 := ⟨fun _ _ => by kernel_rfl⟩
instance : Fun Tryz.prog 142 := ⟨fun _ _ => by kernel_rfl⟩
instance : Fun Tryz.prog 143 := ⟨fun _ _ => by kernel_rfl⟩
instance : Fun Tryz.prog 144 := ⟨fun _ _ => by kernel_rfl⟩
instance : Fun Tryz.prog 145 := ⟨fun _ _ => by kernel_rfl⟩
instance : Fun Tryz.prog 146 := ⟨fun _ _ => by kernel_rfl⟩
instance : Fun Tryz.prog 147 := ⟨fun _ _ => by kernel_rfl⟩
instance : Fun Tryz.prog 148 := ⟨fun _ _ => by kernel_rfl⟩
instance : Fun Tryz.prog 149 := ⟨fun _ _ => by kernel_rfl⟩
instance : Fun Tryz.prog 150 := ⟨fun _ _ => by kernel_rfl⟩
instance : Fun Tryz.prog 151 := ⟨fun _ _ => by kernel_rfl⟩
instance : Fun Tryz.prog 152 := ⟨fun _ _ => by kernel_rfl⟩
instance : Fun Tryz.prog 153 := ⟨fun _ _ => by kernel_rfl⟩
instance : Fun Tryz.prog 154 := ⟨fun _ _ => by kernel_rfl⟩
instance : Fun Tryz.prog 155 := ⟨fun _ _ => by kernel_rfl⟩
instance : Fun Tryz.prog 156 := ⟨fun _ _ => by kernel_rfl⟩
instance : Fun Tryz.prog 157 := ⟨fun _ _ => by kernel_rfl⟩
instance : Fun Tryz.prog 158 := ⟨fun _ _ => by kernel_rfl⟩
instance : Fun Tryz.prog 159 := ⟨fun _ _ => by kernel_rfl⟩
instance : Fun Tryz.prog 160 := ⟨fun _ _ => by kernel_rfl⟩
instance : Fun Tryz.prog 161 := ⟨fun _ _ => by kernel_rfl⟩
instance : Fun Tryz.prog 162 := ⟨fun _ _ => by kernel_rfl⟩
instance : Fun Tryz.prog 163 := ⟨fun _ _ => by kernel_rfl⟩
instance : Fun Tryz.prog 164 := ⟨fun _ _ => by kernel_rfl⟩
instance : Fun Tryz.prog 165 := ⟨fun _ _ => by kernel_rfl⟩
instance : Fun Tryz.prog 166 := ⟨fun _ _ => by kernel_rfl⟩
instance : Fun Tryz.prog 167 := ⟨fun _ _ => by kernel_rfl⟩
instance : Fun Tryz.prog 168 := ⟨fun _ _ => by kernel_rfl⟩
instance : Fun Tryz.prog 169 := ⟨fun _ _ => by kernel_rfl⟩
instance : Fun Tryz.prog 170 := ⟨fun _ _ => by kernel_rfl⟩
instance : Fun Tryz.prog 171 := ⟨fun _ _ => by kernel_rfl⟩
instance : Fun Tryz.prog 172 := ⟨fun _ _ => by kernel_rfl⟩
instance : Fun Tryz.prog 173 := ⟨fun _ _ => by kernel_rfl⟩
instance : Fun Tryz.prog 174 := ⟨fun _ _ => by kernel_rfl⟩
instance : Fun Tryz.prog 175 := ⟨fun _ _ => by kernel_rfl⟩
instance : Fun Tryz.prog 176 := ⟨fun _ _ => by kernel_rfl⟩
instance : Fun Tryz.prog 177 := ⟨fun _ _ => by kernel_rfl⟩
instance : Fun Tryz.prog 178 := ⟨fun _ _ => by kernel_rfl⟩
instance : Fun Tryz.prog 179 := ⟨fun _ _ => by kernel_rfl⟩
instance : Fun Tryz.prog 180 := ⟨fun _ _ => by kernel_rfl⟩
instance : Fun Tryz.prog 181 := ⟨fun _ _ => by kernel_rfl⟩
instance : Fun Tryz.prog 182 := ⟨fun _ _ => by kernel_rfl⟩
instance : Fun Tryz.prog 183 := ⟨fun _ _ => by kernel_rfl⟩
instance : Fun Tryz.prog 184 := ⟨fun _ _ => by kernel_rfl⟩
instance : Fun Tryz.prog 185 := ⟨fun _ _ => by kernel_rfl⟩
instance : Fun Tryz.prog 186 := ⟨fun _ _ => by kernel_rfl⟩
instance : Fun Tryz.prog 187 := ⟨fun _ _ => by kernel_rfl⟩
instance : Fun Tryz.prog 188 := ⟨fun _ _ => by kernel_rfl⟩
instance : Fun Tryz.prog 189 := ⟨fun _ _ => by kernel_rfl⟩
instance : Fun Tryz.prog 190 := ⟨fun _ _ => by kernel_rfl⟩
instance : Fun Tryz.prog 191 := ⟨fun _ _ => by kernel_rfl⟩
instance : Fun Tryz.prog 192 := ⟨fun _ _ => by kernel_rfl⟩
instance : Fun Tryz.prog 193 := ⟨fun _ _ => by kernel_rfl⟩
instance : Fun Tryz.prog 194 := ⟨fun _ _ => by kernel_rfl⟩
instance : Fun Tryz.prog 195 := ⟨fun _ _ => by kernel_rfl⟩
instance : Fun Tryz.prog 196 := ⟨fun _ _ => by kernel_rfl⟩
instance : Fun Tryz.prog 197 := ⟨fun _ _ => by kernel_rfl⟩
instance : Fun Tryz.prog 198 := ⟨fun _ _ => by kernel_rfl⟩
instance : Fun Tryz.prog 199 := ⟨fun _ _ => by kernel_rfl⟩
instance : Fun Tryz.prog 200 := ⟨fun _ _ => by kernel_rfl⟩
instance : Fun Tryz.prog 201 := ⟨fun _ _ => by kernel_rfl⟩
instance : Fun Tryz.prog 203 := ⟨fun _ _ => by kernel_rfl⟩
instance : Fun Tryz.prog 204 := ⟨fun _ _ => by kernel_rfl⟩
instance : Fun Tryz.prog 205 := ⟨fun _ _ => by kernel_rfl⟩
instance : Fun Tryz.prog 206 := ⟨fun _ _ => by kernel_rfl⟩
instance : Fun Tryz.prog 207 := ⟨fun _ _ => by kernel_rfl⟩
instance : Fun Tryz.prog 208 := ⟨fun _ _ => by kernel_rfl⟩
instance : Fun Tryz.prog 209 := ⟨fun _ _ => by kernel_rfl⟩
instance : Fun Tryz.prog 210 := ⟨fun _ _ => by kernel_rfl⟩
instance : Fun Tryz.prog 212 := ⟨fun _ _ => by kernel_rfl⟩
instance : Fun Tryz.prog 213 := ⟨fun _ _ => by kernel_rfl⟩
instance : Fun Tryz.prog 214 := ⟨fun _ _ => by kernel_rfl⟩
instance : Fun Tryz.prog 215 := ⟨fun _ _ => by kernel_rfl⟩
instance : Fun Tryz.prog 216 := ⟨fun _ _ => by kernel_rfl⟩
instance : Fun Tryz.prog 217 := ⟨fun _ _ => by kernel_rfl⟩
instance : Fun Tryz.prog 218 := ⟨fun _ _ => by kernel_rfl⟩
instance : Fun Tryz.prog 219 := ⟨fun _ _ => by kernel_rfl⟩
instance : Fun Tryz.prog 220 := ⟨fun _ _ => by kernel_rfl⟩
instance : Fun Tryz.prog 221 := ⟨fun _ _ => by kernel_rfl⟩
instance : Fun Tryz.prog 222 := ⟨fun _ _ => by kernel_rfl⟩
instance : Fun Tryz.prog 223 := ⟨fun _ _ => by kernel_rfl⟩
instance : Fun Tryz.prog 224 := ⟨fun _ _ => by kernel_rfl⟩
instance : Fun Tryz.prog 225 := ⟨fun _ _ => by kernel_rfl⟩
instance : Fun Tryz.prog 226 := ⟨fun _ _ => by kernel_rfl⟩
instance : Fun Tryz.prog 228 := ⟨fun _ _ => by kernel_rfl⟩
instance : Fun Tryz.prog 229 := ⟨fun _ _ => by kernel_rfl⟩
instance : Fun Tryz.prog 230 := ⟨fun _ _ => by kernel_rfl⟩
instance : Fun Tryz.prog 231 := ⟨fun _ _ => by kernel_rfl⟩
instance : Fun Tryz.prog 232 := ⟨fun _ _ => by kernel_rfl⟩
instance : Fun Tryz.prog 264 := ⟨fun _ _ => by kernel_rfl⟩
instance : Fun Tryz.prog 265 := ⟨fun _ _ => by kernel_rfl⟩
instance : Fun Tryz.prog 266 := ⟨fun _ _ => by kernel_rfl⟩
instance : Fun Tryz.prog 267 := ⟨fun _ _ => by kernel_rfl⟩
instance : Fun Tryz.prog 268 := ⟨fun _ _ => by kernel_rfl⟩
instance : Fun Tryz.prog 269 := ⟨fun _ _ => by kernel_rfl⟩
instance : Fun Tryz.prog 270 := ⟨fun _ _ => by kernel_rfl⟩
instance : Fun Tryz.prog 271 := ⟨fun _ _ => by kernel_rfl⟩
instance : Fun Tryz.prog 279 := ⟨fun _ _ => by kernel_rfl⟩
end Go.Proofs.YtnlfohlngapkfaaGreatDoor
