/- Contracts of functions of this program, each proved by a walk through its code, and plain lemmas on what they compute; on no condition beyond those that each theorem states. -/
import Derived.Test.YtogfficbloejcaaDoorRows
import Derived.Test.YtogfficbloejcaaDoorXA
namespace Go.Proofs.YtogfficbloejcaaDoor
open Go Go.X
set_option maxRecDepth 100000
set_option linter.unusedVariables false
instance : Sc Tryd.prog 1 := ⟨by kernel_rfl, ⟨_, Tryd.underlying1, rfl⟩⟩
instance : Sz Tryd.prog 1 1 := ⟨by kernel_rfl⟩
instance : By Tryd.prog 1 8 := ⟨by kernel_rfl⟩
instance : Zr Tryd.prog 1 (.nilFunc) := ⟨by kernel_rfl⟩
instance : Zc Tryd.prog 1 [.nilFunc] := ⟨⟨.nilFunc, by kernel_rfl, rfl⟩⟩
instance : Sc Tryd.prog 2 := ⟨by kernel_rfl, ⟨_, Tryd.underlying2, rfl⟩⟩
instance : Sz Tryd.prog 2 1 := ⟨by kernel_rfl⟩
instance : By Tryd.prog 2 8 := ⟨by kernel_rfl⟩
instance : Zr Tryd.prog 2 (.int .i64 0) := ⟨by kernel_rfl⟩
instance : Zc Tryd.prog 2 [.int .i64 0] := ⟨⟨.int .i64 0, by kernel_rfl, rfl⟩⟩
instance : Ity Tryd.prog 2 .i64 := ⟨Tryd.underlying2⟩
instance : Sc Tryd.prog 3 := ⟨by kernel_rfl, ⟨_, Tryd.underlying3, rfl⟩⟩
instance : Sz Tryd.prog 3 1 := ⟨by kernel_rfl⟩
instance : By Tryd.prog 3 8 := ⟨by kernel_rfl⟩
instance : Zr Tryd.prog 3 (.int .i64 0) := ⟨by kernel_rfl⟩
instance : Zc Tryd.prog 3 [.int .i64 0] := ⟨⟨.int .i64 0, by kernel_rfl, rfl⟩⟩
instance : Ity Tryd.prog 3 .i64 := ⟨Tryd.underlying3⟩
instance : Sc Tryd.prog 4 := ⟨by kernel_rfl, ⟨_, Tryd.underlying4, rfl⟩⟩
instance : Sz Tryd.prog 4 1 := ⟨by kernel_rfl⟩
instance : By Tryd.prog 4 1 := ⟨by kernel_rfl⟩
instance : Zr Tryd.prog 4 (.bool false) := ⟨by kernel_rfl⟩
instance : Zc Tryd.prog 4 [.bool false] := ⟨⟨.bool false, by kernel_rfl, rfl⟩⟩
instance : Boo Tryd.prog 4 := ⟨Tryd.underlying4⟩
instance : Sc Tryd.prog 5 := ⟨by kernel_rfl, ⟨_, Tryd.underlying5, rfl⟩⟩
instance : Sz Tryd.prog 5 1 := ⟨by kernel_rfl⟩
instance : By Tryd.prog 5 1 := ⟨by kernel_rfl⟩
instance : Zr Tryd.prog 5 (.int .u8 0) := ⟨by kernel_rfl⟩
instance : Zc Tryd.prog 5 [.int .u8 0] := ⟨⟨.int .u8 0, by kernel_rfl, rfl⟩⟩
instance : Ity Tryd.prog 5 .u8 := ⟨Tryd.underlying5⟩
instance : Sc Tryd.prog 6 := ⟨by kernel_rfl, ⟨_, Tryd.underlying6, rfl⟩⟩
instance : Sz Tryd.prog 6 1 := ⟨by kernel_rfl⟩
instance : By Tryd.prog 6 1 := ⟨by kernel_rfl⟩
instance : Zr Tryd.prog 6 (.int .u8 0) := ⟨by kernel_rfl⟩
instance : Zc Tryd.prog 6 [.int .u8 0] := ⟨⟨.int .u8 0, by kernel_rfl, rfl⟩⟩
instance : Ity Tryd.prog 6 .u8 := ⟨Tryd.underlying6⟩
instance : Ag Tryd.prog 7 4 := ⟨by kernel_rfl, ⟨_, Tryd.underlying7, rfl⟩⟩
instance : Sz Tryd.prog 7 4 := ⟨by kernel_rfl⟩
instance : By Tryd.prog 7 24 := ⟨by kernel_rfl⟩
instance : Zr Tryd.prog 7 (.agg #[.int .i64 0, .int .i64 0, .bool false, .int .u8 0]) := ⟨by kernel_rfl⟩
instance : Zc Tryd.prog 7 [.int .i64 0, .int .i64 0, .bool false, .int .u8 0] := ⟨⟨.agg #[.int .i64 0, .int .i64 0, .bool false, .int .u8 0], by kernel_rfl, rfl⟩⟩
instance : Fi Tryd.prog 7 0 0 2 := ⟨⟨_, _, Tryd.underlying7, rfl, rfl, rfl⟩, ⟨1, by kernel_rfl, by decide⟩⟩
instance : Fi Tryd.prog 7 1 1 3 := ⟨⟨_, _, Tryd.underlying7, rfl, rfl, rfl⟩, ⟨1, by kernel_rfl, by decide⟩⟩
instance : Fi Tryd.prog 7 2 2 4 := ⟨⟨_, _, Tryd.underlying7, rfl, rfl, rfl⟩, ⟨1, by kernel_rfl, by decide⟩⟩
instance : Fi Tryd.prog 7 3 3 6 := ⟨⟨_, _, Tryd.underlying7, rfl, rfl, rfl⟩, ⟨1, by kernel_rfl, by decide⟩⟩
instance : Bd Tryd.prog 7 (fun i : Nat => ([(0, 1), (1, 1), (2, 1), (3, 1)] : List (Nat × Nat))[i]?) (Value.cells (.agg #[.int .i64 0, .int .i64 0, .bool false, .int .u8 0])) := bd_struct Tryd.underlying7 (by kernel_rfl) (by kernel_rfl)
instance : Ag Tryd.prog 8 4 := ⟨by kernel_rfl, ⟨_, Tryd.underlying8, rfl⟩⟩
instance : Sz Tryd.prog 8 4 := ⟨by kernel_rfl⟩
instance : By Tryd.prog 8 24 := ⟨by kernel_rfl⟩
instance : Zr Tryd.prog 8 (.agg #[.int .i64 0, .int .i64 0, .bool false, .int .u8 0]) := ⟨by kernel_rfl⟩
instance : Zc Tryd.prog 8 [.int .i64 0, .int .i64 0, .bool false, .int .u8 0] := ⟨⟨.agg #[.int .i64 0, .int .i64 0, .bool false, .int .u8 0], by kernel_rfl, rfl⟩⟩
instance : Fi Tryd.prog 8 0 0 2 := ⟨⟨_, _, Tryd.underlying8, rfl, rfl, rfl⟩, ⟨1, by kernel_rfl, by decide⟩⟩
instance : Fi Tryd.prog 8 1 1 3 := ⟨⟨_, _, Tryd.underlying8, rfl, rfl, rfl⟩, ⟨1, by kernel_rfl, by decide⟩⟩
instance : Fi Tryd.prog 8 2 2 4 := ⟨⟨_, _, Tryd.underlying8, rfl, rfl, rfl⟩, ⟨1, by kernel_rfl, by decide⟩⟩
instance : Fi Tryd.prog 8 3 3 6 := ⟨⟨_, _, Tryd.underlying8, rfl, rfl, rfl⟩, ⟨1, by kernel_rfl, by decide⟩⟩
instance : Bd Tryd.prog 8 (fun i : Nat => ([(0, 1), (1, 1), (2, 1), (3, 1)] : List (Nat × Nat))[i]?) (Value.cells (.agg #[.int .i64 0, .int .i64 0, .bool false, .int .u8 0])) := bd_struct Tryd.underlying8 (by kernel_rfl) (by kernel_rfl)
instance : Sc Tryd.prog 9 := ⟨by kernel_rfl, ⟨_, Tryd.underlying9, rfl⟩⟩
instance : Sz Tryd.prog 9 1 := ⟨by kernel_rfl⟩
instance : By Tryd.prog 9 16 := ⟨by kernel_rfl⟩
instance : Zr Tryd.prog 9 (.string ByteArray.empty) := ⟨by kernel_rfl⟩
instance : Zc Tryd.prog 9 [.string ByteArray.empty] := ⟨⟨.string ByteArray.empty, by kernel_rfl, rfl⟩⟩
instance : Strg Tryd.prog 9 := ⟨Tryd.underlying9⟩
instance : Sc Tryd.prog 10 := ⟨by kernel_rfl, ⟨_, Tryd.underlying10, rfl⟩⟩
instance : Sz Tryd.prog 10 1 := ⟨by kernel_rfl⟩
instance : By Tryd.prog 10 16 := ⟨by kernel_rfl⟩
instance : Zr Tryd.prog 10 (.string ByteArray.empty) := ⟨by kernel_rfl⟩
instance : Zc Tryd.prog 10 [.string ByteArray.empty] := ⟨⟨.string ByteArray.empty, by kernel_rfl, rfl⟩⟩
instance : Strg Tryd.prog 10 := ⟨Tryd.underlying10⟩
instance : Sc Tryd.prog 11 := ⟨by kernel_rfl, ⟨_, Tryd.underlying11, rfl⟩⟩
instance : Sz Tryd.prog 11 1 := ⟨by kernel_rfl⟩
instance : By Tryd.prog 11 16 := ⟨by kernel_rfl⟩
instance : Zr Tryd.prog 11 (.string ByteArray.empty) := ⟨by kernel_rfl⟩
instance : Zc Tryd.prog 11 [.string ByteArray.empty] := ⟨⟨.string ByteArray.empty, by kernel_rfl, rfl⟩⟩
instance : Strg Tryd.prog 11 := ⟨Tryd.underlying11⟩
instance : Sc Tryd.prog 12 := ⟨by kernel_rfl, ⟨_, Tryd.underlying12, rfl⟩⟩
instance : Sz Tryd.prog 12 1 := ⟨by kernel_rfl⟩
instance : By Tryd.prog 12 8 := ⟨by kernel_rfl⟩
instance : Zr Tryd.prog 12 (.int .u64 0) := ⟨by kernel_rfl⟩
instance : Zc Tryd.prog 12 [.int .u64 0] := ⟨⟨.int .u64 0, by kernel_rfl, rfl⟩⟩
instance : Ity Tryd.prog 12 .u64 := ⟨Tryd.underlying12⟩
instance : Ag Tryd.prog 13 2 := ⟨by kernel_rfl, ⟨_, Tryd.underlying13, rfl⟩⟩
instance : Sz Tryd.prog 13 2 := ⟨by kernel_rfl⟩
instance : By Tryd.prog 13 24 := ⟨by kernel_rfl⟩
instance : Zr Tryd.prog 13 (.agg #[.string ByteArray.empty, .int .u64 0]) := ⟨by kernel_rfl⟩
instance : Zc Tryd.prog 13 [.string ByteArray.empty, .int .u64 0] := ⟨⟨.agg #[.string ByteArray.empty, .int .u64 0], by kernel_rfl, rfl⟩⟩
instance : Fi Tryd.prog 13 0 0 9 := ⟨⟨_, _, Tryd.underlying13, rfl, rfl, rfl⟩, ⟨1, by kernel_rfl, by decide⟩⟩
instance : Fi Tryd.prog 13 1 1 12 := ⟨⟨_, _, Tryd.underlying13, rfl, rfl, rfl⟩, ⟨1, by kernel_rfl, by decide⟩⟩
instance : Bd Tryd.prog 13 (fun i : Nat => ([(0, 1), (1, 1)] : List (Nat × Nat))[i]?) (Value.cells (.agg #[.string ByteArray.empty, .int .u64 0])) := bd_struct Tryd.underlying13 (by kernel_rfl) (by kernel_rfl)
instance : Ag Tryd.prog 14 2 := ⟨by kernel_rfl, ⟨_, Tryd.underlying14, rfl⟩⟩
instance : Sz Tryd.prog 14 2 := ⟨by kernel_rfl⟩
instance : By Tryd.prog 14 24 := ⟨by kernel_rfl⟩
instance : Zr Tryd.prog 14 (.agg #[.string ByteArray.empty, .int .u64 0]) := ⟨by kernel_rfl⟩
instance : Zc Tryd.prog 14 [.string ByteArray.empty, .int .u64 0] := ⟨⟨.agg #[.string ByteArray.empty, .int .u64 0], by kernel_rfl, rfl⟩⟩
instance : Fi Tryd.prog 14 0 0 9 := ⟨⟨_, _, Tryd.underlying14, rfl, rfl, rfl⟩, ⟨1, by kernel_rfl, by decide⟩⟩
instance : Fi Tryd.prog 14 1 1 12 := ⟨⟨_, _, Tryd.underlying14, rfl, rfl, rfl⟩, ⟨1, by kernel_rfl, by decide⟩⟩
instance : Bd Tryd.prog 14 (fun i : Nat => ([(0, 1), (1, 1)] : List (Nat × Nat))[i]?) (Value.cells (.agg #[.string ByteArray.empty, .int .u64 0])) := bd_struct Tryd.underlying14 (by kernel_rfl) (by kernel_rfl)
instance : Sc Tryd.prog 15 := ⟨by kernel_rfl, ⟨_, Tryd.underlying15, rfl⟩⟩
instance : Sz Tryd.prog 15 1 := ⟨by kernel_rfl⟩
instance : By Tryd.prog 15 8 := ⟨by kernel_rfl⟩
instance : Zr Tryd.prog 15 (.pointer none) := ⟨by kernel_rfl⟩
instance : Zc Tryd.prog 15 [.pointer none] := ⟨⟨.pointer none, by kernel_rfl, rfl⟩⟩
instance : Sc Tryd.prog 16 := ⟨by kernel_rfl, ⟨_, Tryd.underlying16, rfl⟩⟩
instance : Sz Tryd.prog 16 1 := ⟨by kernel_rfl⟩
instance : By Tryd.prog 16 8 := ⟨by kernel_rfl⟩
instance : Zr Tryd.prog 16 (.pointer none) := ⟨by kernel_rfl⟩
instance : Zc Tryd.prog 16 [.pointer none] := ⟨⟨.pointer none, by kernel_rfl, rfl⟩⟩
instance : Sc Tryd.prog 17 := ⟨by kernel_rfl, ⟨_, Tryd.underlying17, rfl⟩⟩
instance : Sz Tryd.prog 17 1 := ⟨by kernel_rfl⟩
instance : By Tryd.prog 17 8 := ⟨by kernel_rfl⟩
instance : Zr Tryd.prog 17 (.pointer none) := ⟨by kernel_rfl⟩
instance : Zc Tryd.prog 17 [.pointer none] := ⟨⟨.pointer none, by kernel_rfl, rfl⟩⟩
instance : Ag Tryd.prog 18 1 := ⟨by kernel_rfl, ⟨_, Tryd.underlying18, rfl⟩⟩
instance : Sz Tryd.prog 18 1 := ⟨by kernel_rfl⟩
instance : By Tryd.prog 18 8 := ⟨by kernel_rfl⟩
instance : Zr Tryd.prog 18 (.agg #[.pointer none]) := ⟨by kernel_rfl⟩
instance : Zc Tryd.prog 18 [.pointer none] := ⟨⟨.agg #[.pointer none], by kernel_rfl, rfl⟩⟩
instance : Fi Tryd.prog 18 0 0 17 := ⟨⟨_, _, Tryd.underlying18, rfl, rfl, rfl⟩, ⟨1, by kernel_rfl, by decide⟩⟩
instance : Bd Tryd.prog 18 (fun i : Nat => ([(0, 1)] : List (Nat × Nat))[i]?) (Value.cells (.agg #[.pointer none])) := bd_struct Tryd.underlying18 (by kernel_rfl) (by kernel_rfl)
instance : Ag Tryd.prog 19 1 := ⟨by kernel_rfl, ⟨_, Tryd.underlying19, rfl⟩⟩
instance : Sz Tryd.prog 19 1 := ⟨by kernel_rfl⟩
instance : By Tryd.prog 19 8 := ⟨by kernel_rfl⟩
instance : Zr Tryd.prog 19 (.agg #[.pointer none]) := ⟨by kernel_rfl⟩
instance : Zc Tryd.prog 19 [.pointer none] := ⟨⟨.agg #[.pointer none], by kernel_rfl, rfl⟩⟩
instance : Fi Tryd.prog 19 0 0 17 := ⟨⟨_, _, Tryd.underlying19, rfl, rfl, rfl⟩, ⟨1, by kernel_rfl, by decide⟩⟩
instance : Bd Tryd.prog 19 (fun i : Nat => ([(0, 1)] : List (Nat × Nat))[i]?) (Value.cells (.agg #[.pointer none])) := bd_struct Tryd.underlying19 (by kernel_rfl) (by kernel_rfl)
instance : Sc Tryd.prog 20 := ⟨by kernel_rfl, ⟨_, Tryd.underlying20, rfl⟩⟩
instance : Sz Tryd.prog 20 1 := ⟨by kernel_rfl⟩
instance : By Tryd.prog 20 16 := ⟨by kernel_rfl⟩
instance : Zr Tryd.prog 20 (.nilIface) := ⟨by kernel_rfl⟩
instance : Zc Tryd.prog 20 [.nilIface] := ⟨⟨.nilIface, by kernel_rfl, rfl⟩⟩
instance : Sc Tryd.prog 21 := ⟨by kernel_rfl, ⟨_, Tryd.underlying21, rfl⟩⟩
instance : Sz Tryd.prog 21 1 := ⟨by kernel_rfl⟩
instance : By Tryd.prog 21 4 := ⟨by kernel_rfl⟩
instance : Zr Tryd.prog 21 (.int .i32 0) := ⟨by kernel_rfl⟩
instance : Zc Tryd.prog 21 [.int .i32 0] := ⟨⟨.int .i32 0, by kernel_rfl, rfl⟩⟩
instance : Ity Tryd.prog 21 .i32 := ⟨Tryd.underlying21⟩
instance : Sc Tryd.prog 22 := ⟨by kernel_rfl, ⟨_, Tryd.underlying22, rfl⟩⟩
instance : Sz Tryd.prog 22 1 := ⟨by kernel_rfl⟩
instance : By Tryd.prog 22 24 := ⟨by kernel_rfl⟩
instance : Zr Tryd.prog 22 (.slice none 0 0) := ⟨by kernel_rfl⟩
instance : Zc Tryd.prog 22 [.slice none 0 0] := ⟨⟨.slice none 0 0, by kernel_rfl, rfl⟩⟩
instance : Sli Tryd.prog 22 45 := ⟨Tryd.underlying22⟩
instance : Ag Tryd.prog 23 1 := ⟨by kernel_rfl, ⟨_, Tryd.underlying23, rfl⟩⟩
instance : Sz Tryd.prog 23 1 := ⟨by kernel_rfl⟩
instance : By Tryd.prog 23 24 := ⟨by kernel_rfl⟩
instance : Zr Tryd.prog 23 (.agg #[.slice none 0 0]) := ⟨by kernel_rfl⟩
instance : Zc Tryd.prog 23 [.slice none 0 0] := ⟨⟨.agg #[.slice none 0 0], by kernel_rfl, rfl⟩⟩
instance : Fi Tryd.prog 23 0 0 22 := ⟨⟨_, _, Tryd.underlying23, rfl, rfl, rfl⟩, ⟨1, by kernel_rfl, by decide⟩⟩
instance : Bd Tryd.prog 23 (fun i : Nat => ([(0, 1)] : List (Nat × Nat))[i]?) (Value.cells (.agg #[.slice none 0 0])) := bd_struct Tryd.underlying23 (by kernel_rfl) (by kernel_rfl)
instance : Ag Tryd.prog 24 1 := ⟨by kernel_rfl, ⟨_, Tryd.underlying24, rfl⟩⟩
instance : Sz Tryd.prog 24 1 := ⟨by kernel_rfl⟩
instance : By Tryd.prog 24 24 := ⟨by kernel_rfl⟩
instance : Zr Tryd.prog 24 (.agg #[.slice none 0 0]) := ⟨by kernel_rfl⟩
instance : Zc Tryd.prog 24 [.slice none 0 0] := ⟨⟨.agg #[.slice none 0 0], by kernel_rfl, rfl⟩⟩
instance : Fi Tryd.prog 24 0 0 22 := ⟨⟨_, _, Tryd.underlying24, rfl, rfl, rfl⟩, ⟨1, by kernel_rfl, by decide⟩⟩
instance : Bd Tryd.prog 24 (fun i : Nat => ([(0, 1)] : List (Nat × Nat))[i]?) (Value.cells (.agg #[.slice none 0 0])) := bd_struct Tryd.underlying24 (by kernel_rfl) (by kernel_rfl)
instance : Sc Tryd.prog 25 := ⟨by kernel_rfl, ⟨_, Tryd.underlying25, rfl⟩⟩
instance : Sz Tryd.prog 25 1 := ⟨by kernel_rfl⟩
instance : By Tryd.prog 25 24 := ⟨by kernel_rfl⟩
instance : Zr Tryd.prog 25 (.slice none 0 0) := ⟨by kernel_rfl⟩
instance : Zc Tryd.prog 25 [.slice none 0 0] := ⟨⟨.slice none 0 0, by kernel_rfl, rfl⟩⟩
instance : Sli Tryd.prog 25 68 := ⟨Tryd.underlying25⟩
instance : Ag Tryd.prog 26 10 := ⟨by kernel_rfl, ⟨_, Tryd.underlying26, rfl⟩⟩
instance : Sz Tryd.prog 26 10 := ⟨by kernel_rfl⟩
instance : By Tryd.prog 26 80 := ⟨by kernel_rfl⟩
instance : Zr Tryd.prog 26 (.agg #[.int .i64 0, .int .i64 0, .int .i64 0, .int .i64 0, .int .i64 0, .int .i64 0, .int .i64 0, .int .i64 0, .int .i64 0, .int .i64 0]) := ⟨by kernel_rfl⟩
instance : Zc Tryd.prog 26 [.int .i64 0, .int .i64 0, .int .i64 0, .int .i64 0, .int .i64 0, .int .i64 0, .int .i64 0, .int .i64 0, .int .i64 0, .int .i64 0] := ⟨⟨.agg #[.int .i64 0, .int .i64 0, .int .i64 0, .int .i64 0, .int .i64 0, .int .i64 0, .int .i64 0, .int .i64 0, .int .i64 0, .int .i64 0], by kernel_rfl, rfl⟩⟩
instance : Fi Tryd.prog 26 0 0 3 := ⟨⟨_, _, Tryd.underlying26, rfl, rfl, rfl⟩, ⟨1, by kernel_rfl, by decide⟩⟩
instance : Fi Tryd.prog 26 1 1 3 := ⟨⟨_, _, Tryd.underlying26, rfl, rfl, rfl⟩, ⟨1, by kernel_rfl, by decide⟩⟩
instance : Fi Tryd.prog 26 2 2 3 := ⟨⟨_, _, Tryd.underlying26, rfl, rfl, rfl⟩, ⟨1, by kernel_rfl, by decide⟩⟩
instance : Fi Tryd.prog 26 3 3 3 := ⟨⟨_, _, Tryd.underlying26, rfl, rfl, rfl⟩, ⟨1, by kernel_rfl, by decide⟩⟩
instance : Fi Tryd.prog 26 4 4 3 := ⟨⟨_, _, Tryd.underlying26, rfl, rfl, rfl⟩, ⟨1, by kernel_rfl, by decide⟩⟩
instance : Fi Tryd.prog 26 5 5 3 := ⟨⟨_, _, Tryd.underlying26, rfl, rfl, rfl⟩, ⟨1, by kernel_rfl, by decide⟩⟩
instance : Fi Tryd.prog 26 6 6 3 := ⟨⟨_, _, Tryd.underlying26, rfl, rfl, rfl⟩, ⟨1, by kernel_rfl, by decide⟩⟩
instance : Fi Tryd.prog 26 7 7 3 := ⟨⟨_, _, Tryd.underlying26, rfl, rfl, rfl⟩, ⟨1, by kernel_rfl, by decide⟩⟩
instance : Fi Tryd.prog 26 8 8 3 := ⟨⟨_, _, Tryd.underlying26, rfl, rfl, rfl⟩, ⟨1, by kernel_rfl, by decide⟩⟩
instance : Fi Tryd.prog 26 9 9 3 := ⟨⟨_, _, Tryd.underlying26, rfl, rfl, rfl⟩, ⟨1, by kernel_rfl, by decide⟩⟩
instance : Bd Tryd.prog 26 (fun i : Nat => ([(0, 1), (1, 1), (2, 1), (3, 1), (4, 1), (5, 1), (6, 1), (7, 1), (8, 1), (9, 1)] : List (Nat × Nat))[i]?) (Value.cells (.agg #[.int .i64 0, .int .i64 0, .int .i64 0, .int .i64 0, .int .i64 0, .int .i64 0, .int .i64 0, .int .i64 0, .int .i64 0, .int .i64 0])) := bd_struct Tryd.underlying26 (by kernel_rfl) (by kernel_rfl)
instance : Ag Tryd.prog 27 10 := ⟨by kernel_rfl, ⟨_, Tryd.underlying27, rfl⟩⟩
instance : Sz Tryd.prog 27 10 := ⟨by kernel_rfl⟩
instance : By Tryd.prog 27 80 := ⟨by kernel_rfl⟩
instance : Zr Tryd.prog 27 (.agg #[.int .i64 0, .int .i64 0, .int .i64 0, .int .i64 0, .int .i64 0, .int .i64 0, .int .i64 0, .int .i64 0, .int .i64 0, .int .i64 0]) := ⟨by kernel_rfl⟩
instance : Zc Tryd.prog 27 [.int .i64 0, .int .i64 0, .int .i64 0, .int .i64 0, .int .i64 0, .int .i64 0, .int .i64 0, .int .i64 0, .int .i64 0, .int .i64 0] := ⟨⟨.agg #[.int .i64 0, .int .i64 0, .int .i64 0, .int .i64 0, .int .i64 0, .int .i64 0, .int .i64 0, .int .i64 0, .int .i64 0, .int .i64 0], by kernel_rfl, rfl⟩⟩
instance : Fi Tryd.prog 27 0 0 3 := ⟨⟨_, _, Tryd.underlying27, rfl, rfl, rfl⟩, ⟨1, by kernel_rfl, by decide⟩⟩
instance : Fi Tryd.prog 27 1 1 3 := ⟨⟨_, _, Tryd.underlying27, rfl, rfl, rfl⟩, ⟨1, by kernel_rfl, by decide⟩⟩
instance : Fi Tryd.prog 27 2 2 3 := ⟨⟨_, _, Tryd.underlying27, rfl, rfl, rfl⟩, ⟨1, by kernel_rfl, by decide⟩⟩
instance : Fi Tryd.prog 27 3 3 3 := ⟨⟨_, _, Tryd.underlying27, rfl, rfl, rfl⟩, ⟨1, by kernel_rfl, by decide⟩⟩
instance : Fi Tryd.prog 27 4 4 3 := ⟨⟨_, _, Tryd.underlying27, rfl, rfl, rfl⟩, ⟨1, by kernel_rfl, by decide⟩⟩
instance : Fi Tryd.prog 27 5 5 3 := ⟨⟨_, _, Tryd.underlying27, rfl, rfl, rfl⟩, ⟨1, by kernel_rfl, by decide⟩⟩
instance : Fi Tryd.prog 27 6 6 3 := ⟨⟨_, _, Tryd.underlying27, rfl, rfl, rfl⟩, ⟨1, by kernel_rfl, by decide⟩⟩
instance : Fi Tryd.prog 27 7 7 3 := ⟨⟨_, _, Tryd.underlying27, rfl, rfl, rfl⟩, ⟨1, by kernel_rfl, by decide⟩⟩
instance : Fi Tryd.prog 27 8 8 3 := ⟨⟨_, _, Tryd.underlying27, rfl, rfl, rfl⟩, ⟨1, by kernel_rfl, by decide⟩⟩
instance : Fi Tryd.prog 27 9 9 3 := ⟨⟨_, _, Tryd.underlying27, rfl, rfl, rfl⟩, ⟨1, by kernel_rfl, by decide⟩⟩
instance : Bd Tryd.prog 27 (fun i : Nat => ([(0, 1), (1, 1), (2, 1), (3, 1), (4, 1), (5, 1), (6, 1), (7, 1), (8, 1), (9, 1)] : List (Nat × Nat))[i]?) (Value.cells (.agg #[.int .i64 0, .int .i64 0, .int .i64 0, .int .i64 0, .int .i64 0, .int .i64 0, .int .i64 0, .int .i64 0, .int .i64 0, .int .i64 0])) := bd_struct Tryd.underlying27 (by kernel_rfl) (by kernel_rfl)
instance : Sc Tryd.prog 28 := ⟨by kernel_rfl, ⟨_, Tryd.underlying28, rfl⟩⟩
instance : Sz Tryd.prog 28 1 := ⟨by kernel_rfl⟩
instance : By Tryd.prog 28 8 := ⟨by kernel_rfl⟩
instance : Zr Tryd.prog 28 (.nilFunc) := ⟨by kernel_rfl⟩
instance : Zc Tryd.prog 28 [.nilFunc] := ⟨⟨.nilFunc, by kernel_rfl, rfl⟩⟩
instance : Sc Tryd.prog 30 := ⟨by kernel_rfl, ⟨_, Tryd.underlying30, rfl⟩⟩
instance : Sz Tryd.prog 30 1 := ⟨by kernel_rfl⟩
instance : By Tryd.prog 30 8 := ⟨by kernel_rfl⟩
instance : Zr Tryd.prog 30 (.nilFunc) := ⟨by kernel_rfl⟩
instance : Zc Tryd.prog 30 [.nilFunc] := ⟨⟨.nilFunc, by kernel_rfl, rfl⟩⟩
instance : Sc Tryd.prog 31 := ⟨by kernel_rfl, ⟨_, Tryd.underlying31, rfl⟩⟩
instance : Sz Tryd.prog 31 1 := ⟨by kernel_rfl⟩
instance : By Tryd.prog 31 8 := ⟨by kernel_rfl⟩
instance : Zr Tryd.prog 31 (.nilFunc) := ⟨by kernel_rfl⟩
instance : Zc Tryd.prog 31 [.nilFunc] := ⟨⟨.nilFunc, by kernel_rfl, rfl⟩⟩
instance : Sc Tryd.prog 32 := ⟨by kernel_rfl, ⟨_, Tryd.underlying32, rfl⟩⟩
instance : Sz Tryd.prog 32 1 := ⟨by kernel_rfl⟩
instance : By Tryd.prog 32 24 := ⟨by kernel_rfl⟩
instance : Zr Tryd.prog 32 (.slice none 0 0) := ⟨by kernel_rfl⟩
instance : Zc Tryd.prog 32 [.slice none 0 0] := ⟨⟨.slice none 0 0, by kernel_rfl, rfl⟩⟩
instance : Sli Tryd.prog 32 27 := ⟨Tryd.underlying32⟩
instance : Sc Tryd.prog 33 := ⟨by kernel_rfl, ⟨_, Tryd.underlying33, rfl⟩⟩
instance : Sz Tryd.prog 33 1 := ⟨by kernel_rfl⟩
instance : By Tryd.prog 33 8 := ⟨by kernel_rfl⟩
instance : Zr Tryd.prog 33 (.nilFunc) := ⟨by kernel_rfl⟩
instance : Zc Tryd.prog 33 [.nilFunc] := ⟨⟨.nilFunc, by kernel_rfl, rfl⟩⟩
instance : Sc Tryd.prog 34 := ⟨by kernel_rfl, ⟨_, Tryd.underlying34, rfl⟩⟩
instance : Sz Tryd.prog 34 1 := ⟨by kernel_rfl⟩
instance : By Tryd.prog 34 24 := ⟨by kernel_rfl⟩
instance : Zr Tryd.prog 34 (.slice none 0 0) := ⟨by kernel_rfl⟩
instance : Zc Tryd.prog 34 [.slice none 0 0] := ⟨⟨.slice none 0 0, by kernel_rfl, rfl⟩⟩
instance : Sli Tryd.prog 34 32 := ⟨Tryd.underlying34⟩
instance : Sc Tryd.prog 35 := ⟨by kernel_rfl, ⟨_, Tryd.underlying35, rfl⟩⟩
instance : Sz Tryd.prog 35 1 := ⟨by kernel_rfl⟩
instance : By Tryd.prog 35 8 := ⟨by kernel_rfl⟩
instance : Zr Tryd.prog 35 (.int .i64 0) := ⟨by kernel_rfl⟩
instance : Zc Tryd.prog 35 [.int .i64 0] := ⟨⟨.int .i64 0, by kernel_rfl, rfl⟩⟩
instance : Ity Tryd.prog 35 .i64 := ⟨Tryd.underlying35⟩
instance : Sc Tryd.prog 37 := ⟨by kernel_rfl, ⟨_, Tryd.underlying37, rfl⟩⟩
instance : Sz Tryd.prog 37 1 := ⟨by kernel_rfl⟩
instance : By Tryd.prog 37 8 := ⟨by kernel_rfl⟩
instance : Zr Tryd.prog 37 (.nilFunc) := ⟨by kernel_rfl⟩
instance : Zc Tryd.prog 37 [.nilFunc] := ⟨⟨.nilFunc, by kernel_rfl, rfl⟩⟩
instance : Sc Tryd.prog 38 := ⟨by kernel_rfl, ⟨_, Tryd.underlying38, rfl⟩⟩
instance : Sz Tryd.prog 38 1 := ⟨by kernel_rfl⟩
instance : By Tryd.prog 38 8 := ⟨by kernel_rfl⟩
instance : Zr Tryd.prog 38 (.nilFunc) := ⟨by kernel_rfl⟩
instance : Zc Tryd.prog 38 [.nilFunc] := ⟨⟨.nilFunc, by kernel_rfl, rfl⟩⟩
instance : Sc Tryd.prog 39 := ⟨by kernel_rfl, ⟨_, Tryd.underlying39, rfl⟩⟩
instance : Sz Tryd.prog 39 1 := ⟨by kernel_rfl⟩
instance : By Tryd.prog 39 8 := ⟨by kernel_rfl⟩
instance : Zr Tryd.prog 39 (.nilFunc) := ⟨by kernel_rfl⟩
instance : Zc Tryd.prog 39 [.nilFunc] := ⟨⟨.nilFunc, by kernel_rfl, rfl⟩⟩
instance : Sc Tryd.prog 40 := ⟨by kernel_rfl, ⟨_, Tryd.underlying40, rfl⟩⟩
instance : Sz Tryd.prog 40 1 := ⟨by kernel_rfl⟩
instance : By Tryd.prog 40 8 := ⟨by kernel_rfl⟩
instance : Zr Tryd.prog 40 (.nilFunc) := ⟨by kernel_rfl⟩
instance : Zc Tryd.prog 40 [.nilFunc] := ⟨⟨.nilFunc, by kernel_rfl, rfl⟩⟩
instance : Sc Tryd.prog 41 := ⟨by kernel_rfl, ⟨_, Tryd.underlying41, rfl⟩⟩
instance : Sz Tryd.prog 41 1 := ⟨by kernel_rfl⟩
instance : By Tryd.prog 41 24 := ⟨by kernel_rfl⟩
instance : Zr Tryd.prog 41 (.slice none 0 0) := ⟨by kernel_rfl⟩
instance : Zc Tryd.prog 41 [.slice none 0 0] := ⟨⟨.slice none 0 0, by kernel_rfl, rfl⟩⟩
instance : Sli Tryd.prog 41 24 := ⟨Tryd.underlying41⟩
instance : Sc Tryd.prog 42 := ⟨by kernel_rfl, ⟨_, Tryd.underlying42, rfl⟩⟩
instance : Sz Tryd.prog 42 1 := ⟨by kernel_rfl⟩
instance : By Tryd.prog 42 8 := ⟨by kernel_rfl⟩
instance : Zr Tryd.prog 42 (.nilFunc) := ⟨by kernel_rfl⟩
instance : Zc Tryd.prog 42 [.nilFunc] := ⟨⟨.nilFunc, by kernel_rfl, rfl⟩⟩
instance : Sc Tryd.prog 43 := ⟨by kernel_rfl, ⟨_, Tryd.underlying43, rfl⟩⟩
instance : Sz Tryd.prog 43 1 := ⟨by kernel_rfl⟩
instance : By Tryd.prog 43 24 := ⟨by kernel_rfl⟩
instance : Zr Tryd.prog 43 (.slice none 0 0) := ⟨by kernel_rfl⟩
instance : Zc Tryd.prog 43 [.slice none 0 0] := ⟨⟨.slice none 0 0, by kernel_rfl, rfl⟩⟩
instance : Sli Tryd.prog 43 3 := ⟨Tryd.underlying43⟩
instance : Ag Tryd.prog 44 10 := ⟨by kernel_rfl, ⟨_, Tryd.underlying44, rfl⟩⟩
instance : Sz Tryd.prog 44 10 := ⟨by kernel_rfl⟩
instance : By Tryd.prog 44 112 := ⟨by kernel_rfl⟩
instance : Zr Tryd.prog 44 (.agg #[.int .i64 0, .int .i64 0, .int .i64 0, .int .i64 0, .int .i64 0, .int .i64 0, .int .i64 0, .int .i64 0, .slice none 0 0, .slice none 0 0]) := ⟨by kernel_rfl⟩
instance : Zc Tryd.prog 44 [.int .i64 0, .int .i64 0, .int .i64 0, .int .i64 0, .int .i64 0, .int .i64 0, .int .i64 0, .int .i64 0, .slice none 0 0, .slice none 0 0] := ⟨⟨.agg #[.int .i64 0, .int .i64 0, .int .i64 0, .int .i64 0, .int .i64 0, .int .i64 0, .int .i64 0, .int .i64 0, .slice none 0 0, .slice none 0 0], by kernel_rfl, rfl⟩⟩
instance : Fi Tryd.prog 44 0 0 3 := ⟨⟨_, _, Tryd.underlying44, rfl, rfl, rfl⟩, ⟨1, by kernel_rfl, by decide⟩⟩
instance : Fi Tryd.prog 44 1 1 3 := ⟨⟨_, _, Tryd.underlying44, rfl, rfl, rfl⟩, ⟨1, by kernel_rfl, by decide⟩⟩
instance : Fi Tryd.prog 44 2 2 3 := ⟨⟨_, _, Tryd.underlying44, rfl, rfl, rfl⟩, ⟨1, by kernel_rfl, by decide⟩⟩
instance : Fi Tryd.prog 44 3 3 3 := ⟨⟨_, _, Tryd.underlying44, rfl, rfl, rfl⟩, ⟨1, by kernel_rfl, by decide⟩⟩
instance : Fi Tryd.prog 44 4 4 3 := ⟨⟨_, _, Tryd.underlying44, rfl, rfl, rfl⟩, ⟨1, by kernel_rfl, by decide⟩⟩
instance : Fi Tryd.prog 44 5 5 3 := ⟨⟨_, _, Tryd.underlying44, rfl, rfl, rfl⟩, ⟨1, by kernel_rfl, by decide⟩⟩
instance : Fi Tryd.prog 44 6 6 3 := ⟨⟨_, _, Tryd.underlying44, rfl, rfl, rfl⟩, ⟨1, by kernel_rfl, by decide⟩⟩
instance : Fi Tryd.prog 44 7 7 3 := ⟨⟨_, _, Tryd.underlying44, rfl, rfl, rfl⟩, ⟨1, by kernel_rfl, by decide⟩⟩
instance : Fi Tryd.prog 44 8 8 43 := ⟨⟨_, _, Tryd.underlying44, rfl, rfl, rfl⟩, ⟨1, by kernel_rfl, by decide⟩⟩
instance : Fi Tryd.prog 44 9 9 43 := ⟨⟨_, _, Tryd.underlying44, rfl, rfl, rfl⟩, ⟨1, by kernel_rfl, by decide⟩⟩
instance : Bd Tryd.prog 44 (fun i : Nat => ([(0, 1), (1, 1), (2, 1), (3, 1), (4, 1), (5, 1), (6, 1), (7, 1), (8, 1), (9, 1)] : List (Nat × Nat))[i]?) (Value.cells (.agg #[.int .i64 0, .int .i64 0, .int .i64 0, .int .i64 0, .int .i64 0, .int .i64 0, .int .i64 0, .int .i64 0, .slice none 0 0, .slice none 0 0])) := bd_struct Tryd.underlying44 (by kernel_rfl) (by kernel_rfl)
instance : Ag Tryd.prog 45 10 := ⟨by kernel_rfl, ⟨_, Tryd.underlying45, rfl⟩⟩
instance : Sz Tryd.prog 45 10 := ⟨by kernel_rfl⟩
instance : By Tryd.prog 45 112 := ⟨by kernel_rfl⟩
instance : Zr Tryd.prog 45 (.agg #[.int .i64 0, .int .i64 0, .int .i64 0, .int .i64 0, .int .i64 0, .int .i64 0, .int .i64 0, .int .i64 0, .slice none 0 0, .slice none 0 0]) := ⟨by kernel_rfl⟩
instance : Zc Tryd.prog 45 [.int .i64 0, .int .i64 0, .int .i64 0, .int .i64 0, .int .i64 0, .int .i64 0, .int .i64 0, .int .i64 0, .slice none 0 0, .slice none 0 0] := ⟨⟨.agg #[.int .i64 0, .int .i64 0, .int .i64 0, .int .i64 0, .int .i64 0, .int .i64 0, .int .i64 0, .int .i64 0, .slice none 0 0, .slice none 0 0], by kernel_rfl, rfl⟩⟩
instance : Fi Tryd.prog 45 0 0 3 := ⟨⟨_, _, Tryd.underlying45, rfl, rfl, rfl⟩, ⟨1, by kernel_rfl, by decide⟩⟩
instance : Fi Tryd.prog 45 1 1 3 := ⟨⟨_, _, Tryd.underlying45, rfl, rfl, rfl⟩, ⟨1, by kernel_rfl, by decide⟩⟩
instance : Fi Tryd.prog 45 2 2 3 := ⟨⟨_, _, Tryd.underlying45, rfl, rfl, rfl⟩, ⟨1, by kernel_rfl, by decide⟩⟩
instance : Fi Tryd.prog 45 3 3 3 := ⟨⟨_, _, Tryd.underlying45, rfl, rfl, rfl⟩, ⟨1, by kernel_rfl, by decide⟩⟩
instance : Fi Tryd.prog 45 4 4 3 := ⟨⟨_, _, Tryd.underlying45, rfl, rfl, rfl⟩, ⟨1, by kernel_rfl, by decide⟩⟩
instance : Fi Tryd.prog 45 5 5 3 := ⟨⟨_, _, Tryd.underlying45, rfl, rfl, rfl⟩, ⟨1, by kernel_rfl, by decide⟩⟩
instance : Fi Tryd.prog 45 6 6 3 := ⟨⟨_, _, Tryd.underlying45, rfl, rfl, rfl⟩, ⟨1, by kernel_rfl, by decide⟩⟩
instance : Fi Tryd.prog 45 7 7 3 := ⟨⟨_, _, Tryd.underlying45, rfl, rfl, rfl⟩, ⟨1, by kernel_rfl, by decide⟩⟩
instance : Fi Tryd.prog 45 8 8 43 := ⟨⟨_, _, Tryd.underlying45, rfl, rfl, rfl⟩, ⟨1, by kernel_rfl, by decide⟩⟩
instance : Fi Tryd.prog 45 9 9 43 := ⟨⟨_, _, Tryd.underlying45, rfl, rfl, rfl⟩, ⟨1, by kernel_rfl, by decide⟩⟩
instance : Bd Tryd.prog 45 (fun i : Nat => ([(0, 1), (1, 1), (2, 1), (3, 1), (4, 1), (5, 1), (6, 1), (7, 1), (8, 1), (9, 1)] : List (Nat × Nat))[i]?) (Value.cells (.agg #[.int .i64 0, .int .i64 0, .int .i64 0, .int .i64 0, .int .i64 0, .int .i64 0, .int .i64 0, .int .i64 0, .slice none 0 0, .slice none 0 0])) := bd_struct Tryd.underlying45 (by kernel_rfl) (by kernel_rfl)
instance : Sc Tryd.prog 47 := ⟨by kernel_rfl, ⟨_, Tryd.underlying47, rfl⟩⟩
instance : Sz Tryd.prog 47 1 := ⟨by kernel_rfl⟩
instance : By Tryd.prog 47 8 := ⟨by kernel_rfl⟩
instance : Zr Tryd.prog 47 (.nilFunc) := ⟨by kernel_rfl⟩
instance : Zc Tryd.prog 47 [.nilFunc] := ⟨⟨.nilFunc, by kernel_rfl, rfl⟩⟩
instance : Sc Tryd.prog 48 := ⟨by kernel_rfl, ⟨_, Tryd.underlying48, rfl⟩⟩
instance : Sz Tryd.prog 48 1 := ⟨by kernel_rfl⟩
instance : By Tryd.prog 48 8 := ⟨by kernel_rfl⟩
instance : Zr Tryd.prog 48 (.nilFunc) := ⟨by kernel_rfl⟩
instance : Zc Tryd.prog 48 [.nilFunc] := ⟨⟨.nilFunc, by kernel_rfl, rfl⟩⟩
instance : Sc Tryd.prog 49 := ⟨by kernel_rfl, ⟨_, Tryd.underlying49, rfl⟩⟩
instance : Sz Tryd.prog 49 1 := ⟨by kernel_rfl⟩
instance : By Tryd.prog 49 8 := ⟨by kernel_rfl⟩
instance : Zr Tryd.prog 49 (.nilFunc) := ⟨by kernel_rfl⟩
instance : Zc Tryd.prog 49 [.nilFunc] := ⟨⟨.nilFunc, by kernel_rfl, rfl⟩⟩
instance : Sc Tryd.prog 51 := ⟨by kernel_rfl, ⟨_, Tryd.underlying51, rfl⟩⟩
instance : Sz Tryd.prog 51 1 := ⟨by kernel_rfl⟩
instance : By Tryd.prog 51 8 := ⟨by kernel_rfl⟩
instance : Zr Tryd.prog 51 (.nilFunc) := ⟨by kernel_rfl⟩
instance : Zc Tryd.prog 51 [.nilFunc] := ⟨⟨.nilFunc, by kernel_rfl, rfl⟩⟩
instance : Sc Tryd.prog 52 := ⟨by kernel_rfl, ⟨_, Tryd.underlying52, rfl⟩⟩
instance : Sz Tryd.prog 52 1 := ⟨by kernel_rfl⟩
instance : By Tryd.prog 52 8 := ⟨by kernel_rfl⟩
instance : Zr Tryd.prog 52 (.nilFunc) := ⟨by kernel_rfl⟩
instance : Zc Tryd.prog 52 [.nilFunc] := ⟨⟨.nilFunc, by kernel_rfl, rfl⟩⟩
instance : Sc Tryd.prog 53 := ⟨by kernel_rfl, ⟨_, Tryd.underlying53, rfl⟩⟩
instance : Sz Tryd.prog 53 1 := ⟨by kernel_rfl⟩
instance : By Tryd.prog 53 8 := ⟨by kernel_rfl⟩
instance : Zr Tryd.prog 53 (.nilFunc) := ⟨by kernel_rfl⟩
instance : Zc Tryd.prog 53 [.nilFunc] := ⟨⟨.nilFunc, by kernel_rfl, rfl⟩⟩
instance : Sc Tryd.prog 54 := ⟨by kernel_rfl, ⟨_, Tryd.underlying54, rfl⟩⟩
instance : Sz Tryd.prog 54 1 := ⟨by kernel_rfl⟩
instance : By Tryd.prog 54 8 := ⟨by kernel_rfl⟩
instance : Zr Tryd.prog 54 (.nilFunc) := ⟨by kernel_rfl⟩
instance : Zc Tryd.prog 54 [.nilFunc] := ⟨⟨.nilFunc, by kernel_rfl, rfl⟩⟩
instance : Sc Tryd.prog 55 := ⟨by kernel_rfl, ⟨_, Tryd.underlying55, rfl⟩⟩
instance : Sz Tryd.prog 55 1 := ⟨by kernel_rfl⟩
instance : By Tryd.prog 55 8 := ⟨by kernel_rfl⟩
instance : Zr Tryd.prog 55 (.nilFunc) := ⟨by kernel_rfl⟩
instance : Zc Tryd.prog 55 [.nilFunc] := ⟨⟨.nilFunc, by kernel_rfl, rfl⟩⟩
instance : Sc Tryd.prog 56 := ⟨by kernel_rfl, ⟨_, Tryd.underlying56, rfl⟩⟩
instance : Sz Tryd.prog 56 1 := ⟨by kernel_rfl⟩
instance : By Tryd.prog 56 8 := ⟨by kernel_rfl⟩
instance : Zr Tryd.prog 56 (.nilFunc) := ⟨by kernel_rfl⟩
instance : Zc Tryd.prog 56 [.nilFunc] := ⟨⟨.nilFunc, by kernel_rfl, rfl⟩⟩
instance : Sc Tryd.prog 57 := ⟨by kernel_rfl, ⟨_, Tryd.underlying57, rfl⟩⟩
instance : Sz Tryd.prog 57 1 := ⟨by kernel_rfl⟩
instance : By Tryd.prog 57 8 := ⟨by kernel_rfl⟩
instance : Zr Tryd.prog 57 (.nilFunc) := ⟨by kernel_rfl⟩
instance : Zc Tryd.prog 57 [.nilFunc] := ⟨⟨.nilFunc, by kernel_rfl, rfl⟩⟩
instance : Sc Tryd.prog 59 := ⟨by kernel_rfl, ⟨_, Tryd.underlying59, rfl⟩⟩
instance : Sz Tryd.prog 59 1 := ⟨by kernel_rfl⟩
instance : By Tryd.prog 59 8 := ⟨by kernel_rfl⟩
instance : Zr Tryd.prog 59 (.nilFunc) := ⟨by kernel_rfl⟩
instance : Zc Tryd.prog 59 [.nilFunc] := ⟨⟨.nilFunc, by kernel_rfl, rfl⟩⟩
instance : Sc Tryd.prog 60 := ⟨by kernel_rfl, ⟨_, Tryd.underlying60, rfl⟩⟩
instance : Sz Tryd.prog 60 1 := ⟨by kernel_rfl⟩
instance : By Tryd.prog 60 24 := ⟨by kernel_rfl⟩
instance : Zr Tryd.prog 60 (.slice none 0 0) := ⟨by kernel_rfl⟩
instance : Zc Tryd.prog 60 [.slice none 0 0] := ⟨⟨.slice none 0 0, by kernel_rfl, rfl⟩⟩
instance : Sli Tryd.prog 60 5 := ⟨Tryd.underlying60⟩
instance : Sc Tryd.prog 61 := ⟨by kernel_rfl, ⟨_, Tryd.underlying61, rfl⟩⟩
instance : Sz Tryd.prog 61 1 := ⟨by kernel_rfl⟩
instance : By Tryd.prog 61 24 := ⟨by kernel_rfl⟩
instance : Zr Tryd.prog 61 (.slice none 0 0) := ⟨by kernel_rfl⟩
instance : Zc Tryd.prog 61 [.slice none 0 0] := ⟨⟨.slice none 0 0, by kernel_rfl, rfl⟩⟩
instance : Sli Tryd.prog 61 9 := ⟨Tryd.underlying61⟩
instance : Sc Tryd.prog 63 := ⟨by kernel_rfl, ⟨_, Tryd.underlying63, rfl⟩⟩
instance : Sz Tryd.prog 63 1 := ⟨by kernel_rfl⟩
instance : By Tryd.prog 63 8 := ⟨by kernel_rfl⟩
instance : Zr Tryd.prog 63 (.nilFunc) := ⟨by kernel_rfl⟩
instance : Zc Tryd.prog 63 [.nilFunc] := ⟨⟨.nilFunc, by kernel_rfl, rfl⟩⟩
instance : Sc Tryd.prog 64 := ⟨by kernel_rfl, ⟨_, Tryd.underlying64, rfl⟩⟩
instance : Sz Tryd.prog 64 1 := ⟨by kernel_rfl⟩
instance : By Tryd.prog 64 8 := ⟨by kernel_rfl⟩
instance : Zr Tryd.prog 64 (.nilFunc) := ⟨by kernel_rfl⟩
instance : Zc Tryd.prog 64 [.nilFunc] := ⟨⟨.nilFunc, by kernel_rfl, rfl⟩⟩
instance : Sc Tryd.prog 65 := ⟨by kernel_rfl, ⟨_, Tryd.underlying65, rfl⟩⟩
instance : Sz Tryd.prog 65 1 := ⟨by kernel_rfl⟩
instance : By Tryd.prog 65 8 := ⟨by kernel_rfl⟩
instance : Zr Tryd.prog 65 (.nilFunc) := ⟨by kernel_rfl⟩
instance : Zc Tryd.prog 65 [.nilFunc] := ⟨⟨.nilFunc, by kernel_rfl, rfl⟩⟩
instance : Sc Tryd.prog 66 := ⟨by kernel_rfl, ⟨_, Tryd.underlying66, rfl⟩⟩
instance : Sz Tryd.prog 66 1 := ⟨by kernel_rfl⟩
instance : By Tryd.prog 66 8 := ⟨by kernel_rfl⟩
instance : Zr Tryd.prog 66 (.nilFunc) := ⟨by kernel_rfl⟩
instance : Zc Tryd.prog 66 [.nilFunc] := ⟨⟨.nilFunc, by kernel_rfl, rfl⟩⟩
instance : Sc Tryd.prog 67 := ⟨by kernel_rfl, ⟨_, Tryd.underlying67, rfl⟩⟩
instance : Sz Tryd.prog 67 1 := ⟨by kernel_rfl⟩
instance : By Tryd.prog 67 8 := ⟨by kernel_rfl⟩
instance : Zr Tryd.prog 67 (.int .u64 0) := ⟨by kernel_rfl⟩
instance : Zc Tryd.prog 67 [.int .u64 0] := ⟨⟨.int .u64 0, by kernel_rfl, rfl⟩⟩
instance : Ity Tryd.prog 67 .u64 := ⟨Tryd.underlying67⟩
instance : Ag Tryd.prog 68 4 := ⟨by kernel_rfl, ⟨_, Tryd.underlying68, rfl⟩⟩
instance : Sz Tryd.prog 68 4 := ⟨by kernel_rfl⟩
instance : By Tryd.prog 68 32 := ⟨by kernel_rfl⟩
instance : Zr Tryd.prog 68 (.agg #[.int .i64 0, .int .i64 0, .int .i64 0, .int .i64 0]) := ⟨by kernel_rfl⟩
instance : Zc Tryd.prog 68 [.int .i64 0, .int .i64 0, .int .i64 0, .int .i64 0] := ⟨⟨.agg #[.int .i64 0, .int .i64 0, .int .i64 0, .int .i64 0], by kernel_rfl, rfl⟩⟩
instance : Arr Tryd.prog 68 4 3 := ⟨Tryd.underlying68⟩
instance : Bd Tryd.prog 68 (fun i => some (i * 1, 1)) (Value.cells (.agg #[.int .i64 0, .int .i64 0, .int .i64 0, .int .i64 0])) := bd_array Tryd.underlying68 (by kernel_rfl) (by kernel_rfl)
instance : Sc Tryd.prog 69 := ⟨by kernel_rfl, ⟨_, Tryd.underlying69, rfl⟩⟩
instance : Sz Tryd.prog 69 1 := ⟨by kernel_rfl⟩
instance : By Tryd.prog 69 8 := ⟨by kernel_rfl⟩
instance : Zr Tryd.prog 69 (.nilFunc) := ⟨by kernel_rfl⟩
instance : Zc Tryd.prog 69 [.nilFunc] := ⟨⟨.nilFunc, by kernel_rfl, rfl⟩⟩
instance : Sc Tryd.prog 70 := ⟨by kernel_rfl, ⟨_, Tryd.underlying70, rfl⟩⟩
instance : Sz Tryd.prog 70 1 := ⟨by kernel_rfl⟩
instance : By Tryd.prog 70 8 := ⟨by kernel_rfl⟩
instance : Zr Tryd.prog 70 (.nilFunc) := ⟨by kernel_rfl⟩
instance : Zc Tryd.prog 70 [.nilFunc] := ⟨⟨.nilFunc, by kernel_rfl, rfl⟩⟩
instance : Sc Tryd.prog 71 := ⟨by kernel_rfl, ⟨_, Tryd.underlying71, rfl⟩⟩
instance : Sz Tryd.prog 71 1 := ⟨by kernel_rfl⟩
instance : By Tryd.prog 71 8 := ⟨by kernel_rfl⟩
instance : Zr Tryd.prog 71 (.nilFunc) := ⟨by kernel_rfl⟩
instance : Zc Tryd.prog 71 [.nilFunc] := ⟨⟨.nilFunc, by kernel_rfl, rfl⟩⟩
instance : Sc Tryd.prog 72 := ⟨by kernel_rfl, ⟨_, Tryd.underlying72, rfl⟩⟩
instance : Sz Tryd.prog 72 1 := ⟨by kernel_rfl⟩
instance : By Tryd.prog 72 8 := ⟨by kernel_rfl⟩
instance : Zr Tryd.prog 72 (.nilFunc) := ⟨by kernel_rfl⟩
instance : Zc Tryd.prog 72 [.nilFunc] := ⟨⟨.nilFunc, by kernel_rfl, rfl⟩⟩
instance : Sc Tryd.prog 73 := ⟨by kernel_rfl, ⟨_, Tryd.underlying73, rfl⟩⟩
instance : Sz Tryd.prog 73 1 := ⟨by kernel_rfl⟩
instance : By Tryd.prog 73 8 := ⟨by kernel_rfl⟩
instance : Zr Tryd.prog 73 (.nilFunc) := ⟨by kernel_rfl⟩
instance : Zc Tryd.prog 73 [.nilFunc] := ⟨⟨.nilFunc, by kernel_rfl, rfl⟩⟩
instance : Sc Tryd.prog 74 := ⟨by kernel_rfl, ⟨_, Tryd.underlying74, rfl⟩⟩
instance : Sz Tryd.prog 74 1 := ⟨by kernel_rfl⟩
instance : By Tryd.prog 74 8 := ⟨by kernel_rfl⟩
instance : Zr Tryd.prog 74 (.nilFunc) := ⟨by kernel_rfl⟩
instance : Zc Tryd.prog 74 [.nilFunc] := ⟨⟨.nilFunc, by kernel_rfl, rfl⟩⟩
instance : Sc Tryd.prog 75 := ⟨by kernel_rfl, ⟨_, Tryd.underlying75, rfl⟩⟩
instance : Sz Tryd.prog 75 1 := ⟨by kernel_rfl⟩
instance : By Tryd.prog 75 8 := ⟨by kernel_rfl⟩
instance : Zr Tryd.prog 75 (.nilFunc) := ⟨by kernel_rfl⟩
instance : Zc Tryd.prog 75 [.nilFunc] := ⟨⟨.nilFunc, by kernel_rfl, rfl⟩⟩
instance : Sc Tryd.prog 76 := ⟨by kernel_rfl, ⟨_, Tryd.underlying76, rfl⟩⟩
instance : Sz Tryd.prog 76 1 := ⟨by kernel_rfl⟩
instance : By Tryd.prog 76 8 := ⟨by kernel_rfl⟩
instance : Zr Tryd.prog 76 (.nilFunc) := ⟨by kernel_rfl⟩
instance : Zc Tryd.prog 76 [.nilFunc] := ⟨⟨.nilFunc, by kernel_rfl, rfl⟩⟩
instance : Sc Tryd.prog 77 := ⟨by kernel_rfl, ⟨_, Tryd.underlying77, rfl⟩⟩
instance : Sz Tryd.prog 77 1 := ⟨by kernel_rfl⟩
instance : By Tryd.prog 77 8 := ⟨by kernel_rfl⟩
instance : Zr Tryd.prog 77 (.nilFunc) := ⟨by kernel_rfl⟩
instance : Zc Tryd.prog 77 [.nilFunc] := ⟨⟨.nilFunc, by kernel_rfl, rfl⟩⟩
instance : Sc Tryd.prog 78 := ⟨by kernel_rfl, ⟨_, Tryd.underlying78, rfl⟩⟩
instance : Sz Tryd.prog 78 1 := ⟨by kernel_rfl⟩
instance : By Tryd.prog 78 8 := ⟨by kernel_rfl⟩
instance : Zr Tryd.prog 78 (.nilFunc) := ⟨by kernel_rfl⟩
instance : Zc Tryd.prog 78 [.nilFunc] := ⟨⟨.nilFunc, by kernel_rfl, rfl⟩⟩
instance : Sc Tryd.prog 79 := ⟨by kernel_rfl, ⟨_, Tryd.underlying79, rfl⟩⟩
instance : Sz Tryd.prog 79 1 := ⟨by kernel_rfl⟩
instance : By Tryd.prog 79 8 := ⟨by kernel_rfl⟩
instance : Zr Tryd.prog 79 (.nilFunc) := ⟨by kernel_rfl⟩
instance : Zc Tryd.prog 79 [.nilFunc] := ⟨⟨.nilFunc, by kernel_rfl, rfl⟩⟩
instance : Ag Tryd.prog 80 4 := ⟨by kernel_rfl, ⟨_, Tryd.underlying80, rfl⟩⟩
instance : Sz Tryd.prog 80 4 := ⟨by kernel_rfl⟩
instance : By Tryd.prog 80 32 := ⟨by kernel_rfl⟩
instance : Zr Tryd.prog 80 (.agg #[.int .i64 0, .int .i64 0, .int .i64 0, .int .i64 0]) := ⟨by kernel_rfl⟩
instance : Zc Tryd.prog 80 [.int .i64 0, .int .i64 0, .int .i64 0, .int .i64 0] := ⟨⟨.agg #[.int .i64 0, .int .i64 0, .int .i64 0, .int .i64 0], by kernel_rfl, rfl⟩⟩
instance : Arr Tryd.prog 80 4 3 := ⟨Tryd.underlying80⟩
instance : Bd Tryd.prog 80 (fun i => some (i * 1, 1)) (Value.cells (.agg #[.int .i64 0, .int .i64 0, .int .i64 0, .int .i64 0])) := bd_array Tryd.underlying80 (by kernel_rfl) (by kernel_rfl)
instance : Sc Tryd.prog 81 := ⟨by kernel_rfl, ⟨_, Tryd.underlying81, rfl⟩⟩
instance : Sz Tryd.prog 81 1 := ⟨by kernel_rfl⟩
instance : By Tryd.prog 81 8 := ⟨by kernel_rfl⟩
instance : Zr Tryd.prog 81 (.nilFunc) := ⟨by kernel_rfl⟩
instance : Zc Tryd.prog 81 [.nilFunc] := ⟨⟨.nilFunc, by kernel_rfl, rfl⟩⟩
instance : Sc Tryd.prog 82 := ⟨by kernel_rfl, ⟨_, Tryd.underlying82, rfl⟩⟩
instance : Sz Tryd.prog 82 1 := ⟨by kernel_rfl⟩
instance : By Tryd.prog 82 8 := ⟨by kernel_rfl⟩
instance : Zr Tryd.prog 82 (.nilFunc) := ⟨by kernel_rfl⟩
instance : Zc Tryd.prog 82 [.nilFunc] := ⟨⟨.nilFunc, by kernel_rfl, rfl⟩⟩
instance : Sc Tryd.prog 83 := ⟨by kernel_rfl, ⟨_, Tryd.underlying83, rfl⟩⟩
instance : Sz Tryd.prog 83 1 := ⟨by kernel_rfl⟩
instance : By Tryd.prog 83 8 := ⟨by kernel_rfl⟩
instance : Zr Tryd.prog 83 (.nilFunc) := ⟨by kernel_rfl⟩
instance : Zc Tryd.prog 83 [.nilFunc] := ⟨⟨.nilFunc, by kernel_rfl, rfl⟩⟩
instance : Sc Tryd.prog 84 := ⟨by kernel_rfl, ⟨_, Tryd.underlying84, rfl⟩⟩
instance : Sz Tryd.prog 84 1 := ⟨by kernel_rfl⟩
instance : By Tryd.prog 84 8 := ⟨by kernel_rfl⟩
instance : Zr Tryd.prog 84 (.nilFunc) := ⟨by kernel_rfl⟩
instance : Zc Tryd.prog 84 [.nilFunc] := ⟨⟨.nilFunc, by kernel_rfl, rfl⟩⟩
instance : Sc Tryd.prog 85 := ⟨by kernel_rfl, ⟨_, Tryd.underlying85, rfl⟩⟩
instance : Sz Tryd.prog 85 1 := ⟨by kernel_rfl⟩
instance : By Tryd.prog 85 8 := ⟨by kernel_rfl⟩
instance : Zr Tryd.prog 85 (.nilFunc) := ⟨by kernel_rfl⟩
instance : Zc Tryd.prog 85 [.nilFunc] := ⟨⟨.nilFunc, by kernel_rfl, rfl⟩⟩
instance : Sc Tryd.prog 86 := ⟨by kernel_rfl, ⟨_, Tryd.underlying86, rfl⟩⟩
instance : Sz Tryd.prog 86 1 := ⟨by kernel_rfl⟩
instance : By Tryd.prog 86 8 := ⟨by kernel_rfl⟩
instance : Zr Tryd.prog 86 (.nilFunc) := ⟨by kernel_rfl⟩
instance : Zc Tryd.prog 86 [.nilFunc] := ⟨⟨.nilFunc, by kernel_rfl, rfl⟩⟩
instance : Sc Tryd.prog 87 := ⟨by kernel_rfl, ⟨_, Tryd.underlying87, rfl⟩⟩
instance : Sz Tryd.prog 87 1 := ⟨by kernel_rfl⟩
instance : By Tryd.prog 87 8 := ⟨by kernel_rfl⟩
instance : Zr Tryd.prog 87 (.nilFunc) := ⟨by kernel_rfl⟩
instance : Zc Tryd.prog 87 [.nilFunc] := ⟨⟨.nilFunc, by kernel_rfl, rfl⟩⟩
instance : Sc Tryd.prog 88 := ⟨by kernel_rfl, ⟨_, Tryd.underlying88, rfl⟩⟩
instance : Sz Tryd.prog 88 1 := ⟨by kernel_rfl⟩
instance : By Tryd.prog 88 24 := ⟨by kernel_rfl⟩
instance : Zr Tryd.prog 88 (.slice none 0 0) := ⟨by kernel_rfl⟩
instance : Zc Tryd.prog 88 [.slice none 0 0] := ⟨⟨.slice none 0 0, by kernel_rfl, rfl⟩⟩
instance : Sli Tryd.prog 88 43 := ⟨Tryd.underlying88⟩
instance : Sc Tryd.prog 89 := ⟨by kernel_rfl, ⟨_, Tryd.underlying89, rfl⟩⟩
instance : Sz Tryd.prog 89 1 := ⟨by kernel_rfl⟩
instance : By Tryd.prog 89 8 := ⟨by kernel_rfl⟩
instance : Zr Tryd.prog 89 (.nilFunc) := ⟨by kernel_rfl⟩
instance : Zc Tryd.prog 89 [.nilFunc] := ⟨⟨.nilFunc, by kernel_rfl, rfl⟩⟩
instance : Sc Tryd.prog 91 := ⟨by kernel_rfl, ⟨_, Tryd.underlying91, rfl⟩⟩
instance : Sz Tryd.prog 91 1 := ⟨by kernel_rfl⟩
instance : By Tryd.prog 91 8 := ⟨by kernel_rfl⟩
instance : Zr Tryd.prog 91 (.nilFunc) := ⟨by kernel_rfl⟩
instance : Zc Tryd.prog 91 [.nilFunc] := ⟨⟨.nilFunc, by kernel_rfl, rfl⟩⟩
instance : Sc Tryd.prog 92 := ⟨by kernel_rfl, ⟨_, Tryd.underlying92, rfl⟩⟩
instance : Sz Tryd.prog 92 1 := ⟨by kernel_rfl⟩
instance : By Tryd.prog 92 8 := ⟨by kernel_rfl⟩
instance : Zr Tryd.prog 92 (.nilFunc) := ⟨by kernel_rfl⟩
instance : Zc Tryd.prog 92 [.nilFunc] := ⟨⟨.nilFunc, by kernel_rfl, rfl⟩⟩
instance : Sc Tryd.prog 93 := ⟨by kernel_rfl, ⟨_, Tryd.underlying93, rfl⟩⟩
instance : Sz Tryd.prog 93 1 := ⟨by kernel_rfl⟩
instance : By Tryd.prog 93 8 := ⟨by kernel_rfl⟩
instance : Zr Tryd.prog 93 (.nilFunc) := ⟨by kernel_rfl⟩
instance : Zc Tryd.prog 93 [.nilFunc] := ⟨⟨.nilFunc, by kernel_rfl, rfl⟩⟩
instance : Sc Tryd.prog 94 := ⟨by kernel_rfl, ⟨_, Tryd.underlying94, rfl⟩⟩
instance : Sz Tryd.prog 94 1 := ⟨by kernel_rfl⟩
instance : By Tryd.prog 94 8 := ⟨by kernel_rfl⟩
instance : Zr Tryd.prog 94 (.nilFunc) := ⟨by kernel_rfl⟩
instance : Zc Tryd.prog 94 [.nilFunc] := ⟨⟨.nilFunc, by kernel_rfl, rfl⟩⟩
instance : Ag Tryd.prog 95 8 := ⟨by kernel_rfl, ⟨_, Tryd.underlying95, rfl⟩⟩
instance : Sz Tryd.prog 95 8 := ⟨by kernel_rfl⟩
instance : By Tryd.prog 95 64 := ⟨by kernel_rfl⟩
instance : Zr Tryd.prog 95 (.agg #[.int .i64 0, .int .i64 0, .int .i64 0, .int .i64 0, .int .i64 0, .int .i64 0, .int .i64 0, .int .i64 0]) := ⟨by kernel_rfl⟩
instance : Zc Tryd.prog 95 [.int .i64 0, .int .i64 0, .int .i64 0, .int .i64 0, .int .i64 0, .int .i64 0, .int .i64 0, .int .i64 0] := ⟨⟨.agg #[.int .i64 0, .int .i64 0, .int .i64 0, .int .i64 0, .int .i64 0, .int .i64 0, .int .i64 0, .int .i64 0], by kernel_rfl, rfl⟩⟩
instance : Arr Tryd.prog 95 8 3 := ⟨Tryd.underlying95⟩
instance : Bd Tryd.prog 95 (fun i => some (i * 1, 1)) (Value.cells (.agg #[.int .i64 0, .int .i64 0, .int .i64 0, .int .i64 0, .int .i64 0, .int .i64 0, .int .i64 0, .int .i64 0])) := bd_array Tryd.underlying95 (by kernel_rfl) (by kernel_rfl)
instance : Sc Tryd.prog 97 := ⟨by kernel_rfl, ⟨_, Tryd.underlying97, rfl⟩⟩
instance : Sz Tryd.prog 97 1 := ⟨by kernel_rfl⟩
instance : By Tryd.prog 97 8 := ⟨by kernel_rfl⟩
instance : Zr Tryd.prog 97 (.nilFunc) := ⟨by kernel_rfl⟩
instance : Zc Tryd.prog 97 [.nilFunc] := ⟨⟨.nilFunc, by kernel_rfl, rfl⟩⟩
instance : Sc Tryd.prog 98 := ⟨by kernel_rfl, ⟨_, Tryd.underlying98, rfl⟩⟩
instance : Sz Tryd.prog 98 1 := ⟨by kernel_rfl⟩
instance : By Tryd.prog 98 8 := ⟨by kernel_rfl⟩
instance : Zr Tryd.prog 98 (.nilFunc) := ⟨by kernel_rfl⟩
instance : Zc Tryd.prog 98 [.nilFunc] := ⟨⟨.nilFunc, by kernel_rfl, rfl⟩⟩
instance : Sc Tryd.prog 99 := ⟨by kernel_rfl, ⟨_, Tryd.underlying99, rfl⟩⟩
instance : Sz Tryd.prog 99 1 := ⟨by kernel_rfl⟩
instance : By Tryd.prog 99 4 := ⟨by kernel_rfl⟩
instance : Zr Tryd.prog 99 (.int .u32 0) := ⟨by kernel_rfl⟩
instance : Zc Tryd.prog 99 [.int .u32 0] := ⟨⟨.int .u32 0, by kernel_rfl, rfl⟩⟩
instance : Ity Tryd.prog 99 .u32 := ⟨Tryd.underlying99⟩
instance : Sc Tryd.prog 100 := ⟨by kernel_rfl, ⟨_, Tryd.underlying100, rfl⟩⟩
instance : Sz Tryd.prog 100 1 := ⟨by kernel_rfl⟩
instance : By Tryd.prog 100 8 := ⟨by kernel_rfl⟩
instance : Zr Tryd.prog 100 (.nilFunc) := ⟨by kernel_rfl⟩
instance : Zc Tryd.prog 100 [.nilFunc] := ⟨⟨.nilFunc, by kernel_rfl, rfl⟩⟩
instance : Sc Tryd.prog 101 := ⟨by kernel_rfl, ⟨_, Tryd.underlying101, rfl⟩⟩
instance : Sz Tryd.prog 101 1 := ⟨by kernel_rfl⟩
instance : By Tryd.prog 101 8 := ⟨by kernel_rfl⟩
instance : Zr Tryd.prog 101 (.int .u64 0) := ⟨by kernel_rfl⟩
instance : Zc Tryd.prog 101 [.int .u64 0] := ⟨⟨.int .u64 0, by kernel_rfl, rfl⟩⟩
instance : Ity Tryd.prog 101 .u64 := ⟨Tryd.underlying101⟩
instance : Sc Tryd.prog 102 := ⟨by kernel_rfl, ⟨_, Tryd.underlying102, rfl⟩⟩
instance : Sz Tryd.prog 102 1 := ⟨by kernel_rfl⟩
instance : By Tryd.prog 102 8 := ⟨by kernel_rfl⟩
instance : Zr Tryd.prog 102 (.nilFunc) := ⟨by kernel_rfl⟩
instance : Zc Tryd.prog 102 [.nilFunc] := ⟨⟨.nilFunc, by kernel_rfl, rfl⟩⟩
instance : Sc Tryd.prog 103 := ⟨by kernel_rfl, ⟨_, Tryd.underlying103, rfl⟩⟩
instance : Sz Tryd.prog 103 1 := ⟨by kernel_rfl⟩
instance : By Tryd.prog 103 8 := ⟨by kernel_rfl⟩
instance : Zr Tryd.prog 103 (.map none) := ⟨by kernel_rfl⟩
instance : Zc Tryd.prog 103 [.map none] := ⟨⟨.map none, by kernel_rfl, rfl⟩⟩
instance : Sc Tryd.prog 104 := ⟨by kernel_rfl, ⟨_, Tryd.underlying104, rfl⟩⟩
instance : Sz Tryd.prog 104 1 := ⟨by kernel_rfl⟩
instance : By Tryd.prog 104 8 := ⟨by kernel_rfl⟩
instance : Zr Tryd.prog 104 (.nilFunc) := ⟨by kernel_rfl⟩
instance : Zc Tryd.prog 104 [.nilFunc] := ⟨⟨.nilFunc, by kernel_rfl, rfl⟩⟩
instance : Sc Tryd.prog 105 := ⟨by kernel_rfl, ⟨_, Tryd.underlying105, rfl⟩⟩
instance : Sz Tryd.prog 105 1 := ⟨by kernel_rfl⟩
instance : By Tryd.prog 105 8 := ⟨by kernel_rfl⟩
instance : Zr Tryd.prog 105 (.nilFunc) := ⟨by kernel_rfl⟩
instance : Zc Tryd.prog 105 [.nilFunc] := ⟨⟨.nilFunc, by kernel_rfl, rfl⟩⟩
instance : Sc Tryd.prog 106 := ⟨by kernel_rfl, ⟨_, Tryd.underlying106, rfl⟩⟩
instance : Sz Tryd.prog 106 1 := ⟨by kernel_rfl⟩
instance : By Tryd.prog 106 8 := ⟨by kernel_rfl⟩
instance : Zr Tryd.prog 106 (.nilFunc) := ⟨by kernel_rfl⟩
instance : Zc Tryd.prog 106 [.nilFunc] := ⟨⟨.nilFunc, by kernel_rfl, rfl⟩⟩
instance : Sc Tryd.prog 107 := ⟨by kernel_rfl, ⟨_, Tryd.underlying107, rfl⟩⟩
instance : Sz Tryd.prog 107 1 := ⟨by kernel_rfl⟩
instance : By Tryd.prog 107 8 := ⟨by kernel_rfl⟩
instance : Zr Tryd.prog 107 (.nilFunc) := ⟨by kernel_rfl⟩
instance : Zc Tryd.prog 107 [.nilFunc] := ⟨⟨.nilFunc, by kernel_rfl, rfl⟩⟩
instance : Sc Tryd.prog 108 := ⟨by kernel_rfl, ⟨_, Tryd.underlying108, rfl⟩⟩
instance : Sz Tryd.prog 108 1 := ⟨by kernel_rfl⟩
instance : By Tryd.prog 108 8 := ⟨by kernel_rfl⟩
instance : Zr Tryd.prog 108 (.nilFunc) := ⟨by kernel_rfl⟩
instance : Zc Tryd.prog 108 [.nilFunc] := ⟨⟨.nilFunc, by kernel_rfl, rfl⟩⟩
instance : Sc Tryd.prog 109 := ⟨by kernel_rfl, ⟨_, Tryd.underlying109, rfl⟩⟩
instance : Sz Tryd.prog 109 1 := ⟨by kernel_rfl⟩
instance : By Tryd.prog 109 8 := ⟨by kernel_rfl⟩
instance : Zr Tryd.prog 109 (.nilFunc) := ⟨by kernel_rfl⟩
instance : Zc Tryd.prog 109 [.nilFunc] := ⟨⟨.nilFunc, by kernel_rfl, rfl⟩⟩
instance : Sc Tryd.prog 110 := ⟨by kernel_rfl, ⟨_, Tryd.underlying110, rfl⟩⟩
instance : Sz Tryd.prog 110 1 := ⟨by kernel_rfl⟩
instance : By Tryd.prog 110 8 := ⟨by kernel_rfl⟩
instance : Zr Tryd.prog 110 (.nilFunc) := ⟨by kernel_rfl⟩
instance : Zc Tryd.prog 110 [.nilFunc] := ⟨⟨.nilFunc, by kernel_rfl, rfl⟩⟩
instance : Sc Tryd.prog 111 := ⟨by kernel_rfl, ⟨_, Tryd.underlying111, rfl⟩⟩
instance : Sz Tryd.prog 111 1 := ⟨by kernel_rfl⟩
instance : By Tryd.prog 111 8 := ⟨by kernel_rfl⟩
instance : Zr Tryd.prog 111 (.nilFunc) := ⟨by kernel_rfl⟩
instance : Zc Tryd.prog 111 [.nilFunc] := ⟨⟨.nilFunc, by kernel_rfl, rfl⟩⟩
instance : Sc Tryd.prog 112 := ⟨by kernel_rfl, ⟨_, Tryd.underlying112, rfl⟩⟩
instance : Sz Tryd.prog 112 1 := ⟨by kernel_rfl⟩
instance : By Tryd.prog 112 8 := ⟨by kernel_rfl⟩
instance : Zr Tryd.prog 112 (.nilFunc) := ⟨by kernel_rfl⟩
instance : Zc Tryd.prog 112 [.nilFunc] := ⟨⟨.nilFunc, by kernel_rfl, rfl⟩⟩
instance : Sc Tryd.prog 113 := ⟨by kernel_rfl, ⟨_, Tryd.underlying113, rfl⟩⟩
instance : Sz Tryd.prog 113 1 := ⟨by kernel_rfl⟩
instance : By Tryd.prog 113 8 := ⟨by kernel_rfl⟩
instance : Zr Tryd.prog 113 (.nilFunc) := ⟨by kernel_rfl⟩
instance : Zc Tryd.prog 113 [.nilFunc] := ⟨⟨.nilFunc, by kernel_rfl, rfl⟩⟩
instance : Sc Tryd.prog 114 := ⟨by kernel_rfl, ⟨_, Tryd.underlying114, rfl⟩⟩
instance : Sz Tryd.prog 114 1 := ⟨by kernel_rfl⟩
instance : By Tryd.prog 114 8 := ⟨by kernel_rfl⟩
instance : Zr Tryd.prog 114 (.nilFunc) := ⟨by kernel_rfl⟩
instance : Zc Tryd.prog 114 [.nilFunc] := ⟨⟨.nilFunc, by kernel_rfl, rfl⟩⟩
instance : Sc Tryd.prog 115 := ⟨by kernel_rfl, ⟨_, Tryd.underlying115, rfl⟩⟩
instance : Sz Tryd.prog 115 1 := ⟨by kernel_rfl⟩
instance : By Tryd.prog 115 8 := ⟨by kernel_rfl⟩
instance : Zr Tryd.prog 115 (.nilFunc) := ⟨by kernel_rfl⟩
instance : Zc Tryd.prog 115 [.nilFunc] := ⟨⟨.nilFunc, by kernel_rfl, rfl⟩⟩
instance : Sc Tryd.prog 116 := ⟨by kernel_rfl, ⟨_, Tryd.underlying116, rfl⟩⟩
instance : Sz Tryd.prog 116 1 := ⟨by kernel_rfl⟩
instance : By Tryd.prog 116 8 := ⟨by kernel_rfl⟩
instance : Zr Tryd.prog 116 (.nilFunc) := ⟨by kernel_rfl⟩
instance : Zc Tryd.prog 116 [.nilFunc] := ⟨⟨.nilFunc, by kernel_rfl, rfl⟩⟩
instance : Sc Tryd.prog 117 := ⟨by kernel_rfl, ⟨_, Tryd.underlying117, rfl⟩⟩
instance : Sz Tryd.prog 117 1 := ⟨by kernel_rfl⟩
instance : By Tryd.prog 117 8 := ⟨by kernel_rfl⟩
instance : Zr Tryd.prog 117 (.nilFunc) := ⟨by kernel_rfl⟩
instance : Zc Tryd.prog 117 [.nilFunc] := ⟨⟨.nilFunc, by kernel_rfl, rfl⟩⟩
instance : Sc Tryd.prog 118 := ⟨by kernel_rfl, ⟨_, Tryd.underlying118, rfl⟩⟩
instance : Sz Tryd.prog 118 1 := ⟨by kernel_rfl⟩
instance : By Tryd.prog 118 8 := ⟨by kernel_rfl⟩
instance : Zr Tryd.prog 118 (.int .i64 0) := ⟨by kernel_rfl⟩
instance : Zc Tryd.prog 118 [.int .i64 0] := ⟨⟨.int .i64 0, by kernel_rfl, rfl⟩⟩
instance : Ity Tryd.prog 118 .i64 := ⟨Tryd.underlying118⟩
instance : Sc Tryd.prog 120 := ⟨by kernel_rfl, ⟨_, Tryd.underlying120, rfl⟩⟩
instance : Sz Tryd.prog 120 1 := ⟨by kernel_rfl⟩
instance : By Tryd.prog 120 8 := ⟨by kernel_rfl⟩
instance : Zr Tryd.prog 120 (.nilFunc) := ⟨by kernel_rfl⟩
instance : Zc Tryd.prog 120 [.nilFunc] := ⟨⟨.nilFunc, by kernel_rfl, rfl⟩⟩
instance : Sc Tryd.prog 121 := ⟨by kernel_rfl, ⟨_, Tryd.underlying121, rfl⟩⟩
instance : Sz Tryd.prog 121 1 := ⟨by kernel_rfl⟩
instance : By Tryd.prog 121 8 := ⟨by kernel_rfl⟩
instance : Zr Tryd.prog 121 (.nilFunc) := ⟨by kernel_rfl⟩
instance : Zc Tryd.prog 121 [.nilFunc] := ⟨⟨.nilFunc, by kernel_rfl, rfl⟩⟩
instance : Sc Tryd.prog 122 := ⟨by kernel_rfl, ⟨_, Tryd.underlying122, rfl⟩⟩
instance : Sz Tryd.prog 122 1 := ⟨by kernel_rfl⟩
instance : By Tryd.prog 122 8 := ⟨by kernel_rfl⟩
instance : Zr Tryd.prog 122 (.nilFunc) := ⟨by kernel_rfl⟩
instance : Zc Tryd.prog 122 [.nilFunc] := ⟨⟨.nilFunc, by kernel_rfl, rfl⟩⟩
instance : Sc Tryd.prog 124 := ⟨by kernel_rfl, ⟨_, Tryd.underlying124, rfl⟩⟩
instance : Sz Tryd.prog 124 1 := ⟨by kernel_rfl⟩
instance : By Tryd.prog 124 8 := ⟨by kernel_rfl⟩
instance : Zr Tryd.prog 124 (.nilFunc) := ⟨by kernel_rfl⟩
instance : Zc Tryd.prog 124 [.nilFunc] := ⟨⟨.nilFunc, by kernel_rfl, rfl⟩⟩
instance : Sc Tryd.prog 125 := ⟨by kernel_rfl, ⟨_, Tryd.underlying125, rfl⟩⟩
instance : Sz Tryd.prog 125 1 := ⟨by kernel_rfl⟩
instance : By Tryd.prog 125 8 := ⟨by kernel_rfl⟩
instance : Zr Tryd.prog 125 (.int .u64 0) := ⟨by kernel_rfl⟩
instance : Zc Tryd.prog 125 [.int .u64 0] := ⟨⟨.int .u64 0, by kernel_rfl, rfl⟩⟩
instance : Ity Tryd.prog 125 .u64 := ⟨Tryd.underlying125⟩
instance : Sc Tryd.prog 126 := ⟨by kernel_rfl, ⟨_, Tryd.underlying126, rfl⟩⟩
instance : Sz Tryd.prog 126 1 := ⟨by kernel_rfl⟩
instance : By Tryd.prog 126 8 := ⟨by kernel_rfl⟩
instance : Zr Tryd.prog 126 (.nilFunc) := ⟨by kernel_rfl⟩
instance : Zc Tryd.prog 126 [.nilFunc] := ⟨⟨.nilFunc, by kernel_rfl, rfl⟩⟩
instance : Sc Tryd.prog 127 := ⟨by kernel_rfl, ⟨_, Tryd.underlying127, rfl⟩⟩
instance : Sz Tryd.prog 127 1 := ⟨by kernel_rfl⟩
instance : By Tryd.prog 127 8 := ⟨by kernel_rfl⟩
instance : Zr Tryd.prog 127 (.nilFunc) := ⟨by kernel_rfl⟩
instance : Zc Tryd.prog 127 [.nilFunc] := ⟨⟨.nilFunc, by kernel_rfl, rfl⟩⟩
instance : Sc Tryd.prog 128 := ⟨by kernel_rfl, ⟨_, Tryd.underlying128, rfl⟩⟩
instance : Sz Tryd.prog 128 1 := ⟨by kernel_rfl⟩
instance : By Tryd.prog 128 8 := ⟨by kernel_rfl⟩
instance : Zr Tryd.prog 128 (.nilFunc) := ⟨by kernel_rfl⟩
instance : Zc Tryd.prog 128 [.nilFunc] := ⟨⟨.nilFunc, by kernel_rfl, rfl⟩⟩
instance : Sc Tryd.prog 129 := ⟨by kernel_rfl, ⟨_, Tryd.underlying129, rfl⟩⟩
instance : Sz Tryd.prog 129 1 := ⟨by kernel_rfl⟩
instance : By Tryd.prog 129 8 := ⟨by kernel_rfl⟩
instance : Zr Tryd.prog 129 (.pointer none) := ⟨by kernel_rfl⟩
instance : Zc Tryd.prog 129 [.pointer none] := ⟨⟨.pointer none, by kernel_rfl, rfl⟩⟩
instance : Sc Tryd.prog 130 := ⟨by kernel_rfl, ⟨_, Tryd.underlying130, rfl⟩⟩
instance : Sz Tryd.prog 130 1 := ⟨by kernel_rfl⟩
instance : By Tryd.prog 130 8 := ⟨by kernel_rfl⟩
instance : Zr Tryd.prog 130 (.nilFunc) := ⟨by kernel_rfl⟩
instance : Zc Tryd.prog 130 [.nilFunc] := ⟨⟨.nilFunc, by kernel_rfl, rfl⟩⟩
instance : Sc Tryd.prog 131 := ⟨by kernel_rfl, ⟨_, Tryd.underlying131, rfl⟩⟩
instance : Sz Tryd.prog 131 1 := ⟨by kernel_rfl⟩
instance : By Tryd.prog 131 8 := ⟨by kernel_rfl⟩
instance : Zr Tryd.prog 131 (.pointer none) := ⟨by kernel_rfl⟩
instance : Zc Tryd.prog 131 [.pointer none] := ⟨⟨.pointer none, by kernel_rfl, rfl⟩⟩
instance : Sc Tryd.prog 132 := ⟨by kernel_rfl, ⟨_, Tryd.underlying132, rfl⟩⟩
instance : Sz Tryd.prog 132 1 := ⟨by kernel_rfl⟩
instance : By Tryd.prog 132 8 := ⟨by kernel_rfl⟩
instance : Zr Tryd.prog 132 (.nilFunc) := ⟨by kernel_rfl⟩
instance : Zc Tryd.prog 132 [.nilFunc] := ⟨⟨.nilFunc, by kernel_rfl, rfl⟩⟩
instance : Sc Tryd.prog 133 := ⟨by kernel_rfl, ⟨_, Tryd.underlying133, rfl⟩⟩
instance : Sz Tryd.prog 133 1 := ⟨by kernel_rfl⟩
instance : By Tryd.prog 133 8 := ⟨by kernel_rfl⟩
instance : Zr Tryd.prog 133 (.nilFunc) := ⟨by kernel_rfl⟩
instance : Zc Tryd.prog 133 [.nilFunc] := ⟨⟨.nilFunc, by kernel_rfl, rfl⟩⟩
instance : Ag Tryd.prog 134 4 := ⟨by kernel_rfl, ⟨_, Tryd.underlying134, rfl⟩⟩
instance : Sz Tryd.prog 134 4 := ⟨by kernel_rfl⟩
instance : By Tryd.prog 134 40 := ⟨by kernel_rfl⟩
instance : Zr Tryd.prog 134 (.agg #[.pointer none, .pointer none, .pointer none, .string ByteArray.empty]) := ⟨by kernel_rfl⟩
instance : Zc Tryd.prog 134 [.pointer none, .pointer none, .pointer none, .string ByteArray.empty] := ⟨⟨.agg #[.pointer none, .pointer none, .pointer none, .string ByteArray.empty], by kernel_rfl, rfl⟩⟩
instance : Fi Tryd.prog 134 0 0 17 := ⟨⟨_, _, Tryd.underlying134, rfl, rfl, rfl⟩, ⟨1, by kernel_rfl, by decide⟩⟩
instance : Fi Tryd.prog 134 1 1 17 := ⟨⟨_, _, Tryd.underlying134, rfl, rfl, rfl⟩, ⟨1, by kernel_rfl, by decide⟩⟩
instance : Fi Tryd.prog 134 2 2 17 := ⟨⟨_, _, Tryd.underlying134, rfl, rfl, rfl⟩, ⟨1, by kernel_rfl, by decide⟩⟩
instance : Fi Tryd.prog 134 3 3 9 := ⟨⟨_, _, Tryd.underlying134, rfl, rfl, rfl⟩, ⟨1, by kernel_rfl, by decide⟩⟩
instance : Bd Tryd.prog 134 (fun i : Nat => ([(0, 1), (1, 1), (2, 1), (3, 1)] : List (Nat × Nat))[i]?) (Value.cells (.agg #[.pointer none, .pointer none, .pointer none, .string ByteArray.empty])) := bd_struct Tryd.underlying134 (by kernel_rfl) (by kernel_rfl)
instance : Ag Tryd.prog 135 4 := ⟨by kernel_rfl, ⟨_, Tryd.underlying135, rfl⟩⟩
instance : Sz Tryd.prog 135 4 := ⟨by kernel_rfl⟩
instance : By Tryd.prog 135 40 := ⟨by kernel_rfl⟩
instance : Zr Tryd.prog 135 (.agg #[.pointer none, .pointer none, .pointer none, .string ByteArray.empty]) := ⟨by kernel_rfl⟩
instance : Zc Tryd.prog 135 [.pointer none, .pointer none, .pointer none, .string ByteArray.empty] := ⟨⟨.agg #[.pointer none, .pointer none, .pointer none, .string ByteArray.empty], by kernel_rfl, rfl⟩⟩
instance : Fi Tryd.prog 135 0 0 17 := ⟨⟨_, _, Tryd.underlying135, rfl, rfl, rfl⟩, ⟨1, by kernel_rfl, by decide⟩⟩
instance : Fi Tryd.prog 135 1 1 17 := ⟨⟨_, _, Tryd.underlying135, rfl, rfl, rfl⟩, ⟨1, by kernel_rfl, by decide⟩⟩
instance : Fi Tryd.prog 135 2 2 17 := ⟨⟨_, _, Tryd.underlying135, rfl, rfl, rfl⟩, ⟨1, by kernel_rfl, by decide⟩⟩
instance : Fi Tryd.prog 135 3 3 9 := ⟨⟨_, _, Tryd.underlying135, rfl, rfl, rfl⟩, ⟨1, by kernel_rfl, by decide⟩⟩
instance : Bd Tryd.prog 135 (fun i : Nat => ([(0, 1), (1, 1), (2, 1), (3, 1)] : List (Nat × Nat))[i]?) (Value.cells (.agg #[.pointer none, .pointer none, .pointer none, .string ByteArray.empty])) := bd_struct Tryd.underlying135 (by kernel_rfl) (by kernel_rfl)
instance : Sz Tryd.prog 136 0 := ⟨by kernel_rfl⟩
instance : By Tryd.prog 136 0 := ⟨by kernel_rfl⟩
instance : Zr Tryd.prog 136 (.agg #[]) := ⟨by kernel_rfl⟩
instance : Zc Tryd.prog 136 [] := ⟨⟨.agg #[], by kernel_rfl, rfl⟩⟩
instance : Arr Tryd.prog 136 0 16 := ⟨Tryd.underlying136⟩
instance : Bd Tryd.prog 136 (fun i => some (i * 1, 1)) (Value.cells (.agg #[])) := bd_array Tryd.underlying136 (by kernel_rfl) (by kernel_rfl)
instance : Sz Tryd.prog 137 0 := ⟨by kernel_rfl⟩
instance : By Tryd.prog 137 0 := ⟨by kernel_rfl⟩
instance : Zr Tryd.prog 137 (.agg #[]) := ⟨by kernel_rfl⟩
instance : Zc Tryd.prog 137 [] := ⟨⟨.agg #[], by kernel_rfl, rfl⟩⟩
instance : Bd Tryd.prog 137 (fun i : Nat => ([(0, 0)] : List (Nat × Nat))[i]?) (Value.cells (.agg #[])) := bd_struct Tryd.underlying137 (by kernel_rfl) (by kernel_rfl)
instance : Sz Tryd.prog 138 0 := ⟨by kernel_rfl⟩
instance : By Tryd.prog 138 0 := ⟨by kernel_rfl⟩
instance : Zr Tryd.prog 138 (.agg #[]) := ⟨by kernel_rfl⟩
instance : Zc Tryd.prog 138 [] := ⟨⟨.agg #[], by kernel_rfl, rfl⟩⟩
instance : Bd Tryd.prog 138 (fun i : Nat => ([(0, 0)] : List (Nat × Nat))[i]?) (Value.cells (.agg #[])) := bd_struct Tryd.underlying138 (by kernel_rfl) (by kernel_rfl)
instance : Sc Tryd.prog 139 := ⟨by kernel_rfl, ⟨_, Tryd.underlying139, rfl⟩⟩
instance : Sz Tryd.prog 139 1 := ⟨by kernel_rfl⟩
instance : By Tryd.prog 139 1 := ⟨by kernel_rfl⟩
instance : Zr Tryd.prog 139 (.int .u8 0) := ⟨by kernel_rfl⟩
instance : Zc Tryd.prog 139 [.int .u8 0] := ⟨⟨.int .u8 0, by kernel_rfl, rfl⟩⟩
instance : Ity Tryd.prog 139 .u8 := ⟨Tryd.underlying139⟩
instance : Sc Tryd.prog 140 := ⟨by kernel_rfl, ⟨_, Tryd.underlying140, rfl⟩⟩
instance : Sz Tryd.prog 140 1 := ⟨by kernel_rfl⟩
instance : By Tryd.prog 140 1 := ⟨by kernel_rfl⟩
instance : Zr Tryd.prog 140 (.int .u8 0) := ⟨by kernel_rfl⟩
instance : Zc Tryd.prog 140 [.int .u8 0] := ⟨⟨.int .u8 0, by kernel_rfl, rfl⟩⟩
instance : Ity Tryd.prog 140 .u8 := ⟨Tryd.underlying140⟩
instance : Sc Tryd.prog 141 := ⟨by kernel_rfl, ⟨_, Tryd.underlying141, rfl⟩⟩
instance : Sz Tryd.prog 141 1 := ⟨by kernel_rfl⟩
instance : By Tryd.prog 141 8 := ⟨by kernel_rfl⟩
instance : Zr Tryd.prog 141 (.nilFunc) := ⟨by kernel_rfl⟩
instance : Zc Tryd.prog 141 [.nilFunc] := ⟨⟨.nilFunc, by kernel_rfl, rfl⟩⟩
instance : Sc Tryd.prog 142 := ⟨by kernel_rfl, ⟨_, Tryd.underlying142, rfl⟩⟩
instance : Sz Tryd.prog 142 1 := ⟨by kernel_rfl⟩
instance : By Tryd.prog 142 8 := ⟨by kernel_rfl⟩
instance : Zr Tryd.prog 142 (.pointer none) := ⟨by kernel_rfl⟩
instance : Zc Tryd.prog 142 [.pointer none] := ⟨⟨.pointer none, by kernel_rfl, rfl⟩⟩
instance : Sc Tryd.prog 143 := ⟨by kernel_rfl, ⟨_, Tryd.underlying143, rfl⟩⟩
instance : Sz Tryd.prog 143 1 := ⟨by kernel_rfl⟩
instance : By Tryd.prog 143 4 := ⟨by kernel_rfl⟩
instance : Zr Tryd.prog 143 (.int .i32 0) := ⟨by kernel_rfl⟩
instance : Zc Tryd.prog 143 [.int .i32 0] := ⟨⟨.int .i32 0, by kernel_rfl, rfl⟩⟩
instance : Ity Tryd.prog 143 .i32 := ⟨Tryd.underlying143⟩
instance : Sc Tryd.prog 144 := ⟨by kernel_rfl, ⟨_, Tryd.underlying144, rfl⟩⟩
instance : Sz Tryd.prog 144 1 := ⟨by kernel_rfl⟩
instance : By Tryd.prog 144 4 := ⟨by kernel_rfl⟩
instance : Zr Tryd.prog 144 (.int .i32 0) := ⟨by kernel_rfl⟩
instance : Zc Tryd.prog 144 [.int .i32 0] := ⟨⟨.int .i32 0, by kernel_rfl, rfl⟩⟩
instance : Ity Tryd.prog 144 .i32 := ⟨Tryd.underlying144⟩
instance : Ag Tryd.prog 145 11 := ⟨by kernel_rfl, ⟨_, Tryd.underlying145, rfl⟩⟩
instance : Sz Tryd.prog 145 11 := ⟨by kernel_rfl⟩
instance : By Tryd.prog 145 48 := ⟨by kernel_rfl⟩
instance : Zr Tryd.prog 145 (.agg #[.int .u64 0, .int .u64 0, .int .u32 0, .int .u8 0, .int .u8 0, .int .u8 0, .int .u8 0, .nilFunc, .pointer none, .int .i32 0, .int .i32 0]) := ⟨by kernel_rfl⟩
instance : Zc Tryd.prog 145 [.int .u64 0, .int .u64 0, .int .u32 0, .int .u8 0, .int .u8 0, .int .u8 0, .int .u8 0, .nilFunc, .pointer none, .int .i32 0, .int .i32 0] := ⟨⟨.agg #[.int .u64 0, .int .u64 0, .int .u32 0, .int .u8 0, .int .u8 0, .int .u8 0, .int .u8 0, .nilFunc, .pointer none, .int .i32 0, .int .i32 0], by kernel_rfl, rfl⟩⟩
instance : Fi Tryd.prog 145 0 0 12 := ⟨⟨_, _, Tryd.underlying145, rfl, rfl, rfl⟩, ⟨1, by kernel_rfl, by decide⟩⟩
instance : Fi Tryd.prog 145 1 1 12 := ⟨⟨_, _, Tryd.underlying145, rfl, rfl, rfl⟩, ⟨1, by kernel_rfl, by decide⟩⟩
instance : Fi Tryd.prog 145 2 2 99 := ⟨⟨_, _, Tryd.underlying145, rfl, rfl, rfl⟩, ⟨1, by kernel_rfl, by decide⟩⟩
instance : Fi Tryd.prog 145 3 3 139 := ⟨⟨_, _, Tryd.underlying145, rfl, rfl, rfl⟩, ⟨1, by kernel_rfl, by decide⟩⟩
instance : Fi Tryd.prog 145 4 4 5 := ⟨⟨_, _, Tryd.underlying145, rfl, rfl, rfl⟩, ⟨1, by kernel_rfl, by decide⟩⟩
instance : Fi Tryd.prog 145 5 5 5 := ⟨⟨_, _, Tryd.underlying145, rfl, rfl, rfl⟩, ⟨1, by kernel_rfl, by decide⟩⟩
instance : Fi Tryd.prog 145 6 6 140 := ⟨⟨_, _, Tryd.underlying145, rfl, rfl, rfl⟩, ⟨1, by kernel_rfl, by decide⟩⟩
instance : Fi Tryd.prog 145 7 7 141 := ⟨⟨_, _, Tryd.underlying145, rfl, rfl, rfl⟩, ⟨1, by kernel_rfl, by decide⟩⟩
instance : Fi Tryd.prog 145 8 8 142 := ⟨⟨_, _, Tryd.underlying145, rfl, rfl, rfl⟩, ⟨1, by kernel_rfl, by decide⟩⟩
instance : Fi Tryd.prog 145 9 9 143 := ⟨⟨_, _, Tryd.underlying145, rfl, rfl, rfl⟩, ⟨1, by kernel_rfl, by decide⟩⟩
instance : Fi Tryd.prog 145 10 10 144 := ⟨⟨_, _, Tryd.underlying145, rfl, rfl, rfl⟩, ⟨1, by kernel_rfl, by decide⟩⟩
instance : Bd Tryd.prog 145 (fun i : Nat => ([(0, 1), (1, 1), (2, 1), (3, 1), (4, 1), (5, 1), (6, 1), (7, 1), (8, 1), (9, 1), (10, 1)] : List (Nat × Nat))[i]?) (Value.cells (.agg #[.int .u64 0, .int .u64 0, .int .u32 0, .int .u8 0, .int .u8 0, .int .u8 0, .int .u8 0, .nilFunc, .pointer none, .int .i32 0, .int .i32 0])) := bd_struct Tryd.underlying145 (by kernel_rfl) (by kernel_rfl)
instance : Ag Tryd.prog 146 11 := ⟨by kernel_rfl, ⟨_, Tryd.underlying146, rfl⟩⟩
instance : Sz Tryd.prog 146 11 := ⟨by kernel_rfl⟩
instance : By Tryd.prog 146 48 := ⟨by kernel_rfl⟩
instance : Zr Tryd.prog 146 (.agg #[.int .u64 0, .int .u64 0, .int .u32 0, .int .u8 0, .int .u8 0, .int .u8 0, .int .u8 0, .nilFunc, .pointer none, .int .i32 0, .int .i32 0]) := ⟨by kernel_rfl⟩
instance : Zc Tryd.prog 146 [.int .u64 0, .int .u64 0, .int .u32 0, .int .u8 0, .int .u8 0, .int .u8 0, .int .u8 0, .nilFunc, .pointer none, .int .i32 0, .int .i32 0] := ⟨⟨.agg #[.int .u64 0, .int .u64 0, .int .u32 0, .int .u8 0, .int .u8 0, .int .u8 0, .int .u8 0, .nilFunc, .pointer none, .int .i32 0, .int .i32 0], by kernel_rfl, rfl⟩⟩
instance : Fi Tryd.prog 146 0 0 12 := ⟨⟨_, _, Tryd.underlying146, rfl, rfl, rfl⟩, ⟨1, by kernel_rfl, by decide⟩⟩
instance : Fi Tryd.prog 146 1 1 12 := ⟨⟨_, _, Tryd.underlying146, rfl, rfl, rfl⟩, ⟨1, by kernel_rfl, by decide⟩⟩
instance : Fi Tryd.prog 146 2 2 99 := ⟨⟨_, _, Tryd.underlying146, rfl, rfl, rfl⟩, ⟨1, by kernel_rfl, by decide⟩⟩
instance : Fi Tryd.prog 146 3 3 139 := ⟨⟨_, _, Tryd.underlying146, rfl, rfl, rfl⟩, ⟨1, by kernel_rfl, by decide⟩⟩
instance : Fi Tryd.prog 146 4 4 5 := ⟨⟨_, _, Tryd.underlying146, rfl, rfl, rfl⟩, ⟨1, by kernel_rfl, by decide⟩⟩
instance : Fi Tryd.prog 146 5 5 5 := ⟨⟨_, _, Tryd.underlying146, rfl, rfl, rfl⟩, ⟨1, by kernel_rfl, by decide⟩⟩
instance : Fi Tryd.prog 146 6 6 140 := ⟨⟨_, _, Tryd.underlying146, rfl, rfl, rfl⟩, ⟨1, by kernel_rfl, by decide⟩⟩
instance : Fi Tryd.prog 146 7 7 141 := ⟨⟨_, _, Tryd.underlying146, rfl, rfl, rfl⟩, ⟨1, by kernel_rfl, by decide⟩⟩
instance : Fi Tryd.prog 146 8 8 142 := ⟨⟨_, _, Tryd.underlying146, rfl, rfl, rfl⟩, ⟨1, by kernel_rfl, by decide⟩⟩
instance : Fi Tryd.prog 146 9 9 143 := ⟨⟨_, _, Tryd.underlying146, rfl, rfl, rfl⟩, ⟨1, by kernel_rfl, by decide⟩⟩
instance : Fi Tryd.prog 146 10 10 144 := ⟨⟨_, _, Tryd.underlying146, rfl, rfl, rfl⟩, ⟨1, by kernel_rfl, by decide⟩⟩
instance : Bd Tryd.prog 146 (fun i : Nat => ([(0, 1), (1, 1), (2, 1), (3, 1), (4, 1), (5, 1), (6, 1), (7, 1), (8, 1), (9, 1), (10, 1)] : List (Nat × Nat))[i]?) (Value.cells (.agg #[.int .u64 0, .int .u64 0, .int .u32 0, .int .u8 0, .int .u8 0, .int .u8 0, .int .u8 0, .nilFunc, .pointer none, .int .i32 0, .int .i32 0])) := bd_struct Tryd.underlying146 (by kernel_rfl) (by kernel_rfl)
instance : Mx Tryd.prog := ⟨by kernel_rfl⟩
instance : Fun Tryd.prog 3 := ⟨fun _ _ => by kernel_rfl⟩
instance : Fun Tryd.prog 4 := ⟨fun _ _ => by kernel_rfl⟩
instance : Fun Tryd.prog 5 := ⟨fun _ _ => by kernel_rfl⟩
instance : Fun Tryd.prog 6 := ⟨fun _ _ => by kernel_rfl⟩
instance : Fun Tryd.prog 7 := ⟨fun _ _ => by kernel_rfl⟩
instance : Fun Tryd.prog 8 := ⟨fun _ _ => by kernel_rfl⟩
instance : Fun Tryd.prog 9 := ⟨fun _ _ => by kernel_rfl⟩
instance : Fun Tryd.prog 10 := ⟨fun _ _ => by kernel_rfl⟩
instance : Fun Tryd.prog 11 := ⟨fun _ _ => by kernel_rfl⟩
instance : Fun Tryd.prog 12 := ⟨fun _ _ => by kernel_rfl⟩
instance : Fun Tryd.prog 13 := ⟨fun _ _ => by kernel_rfl⟩
instance : Fun Tryd.prog 14 := ⟨fun _ _ => by kernel_rfl⟩
instance : Fun Tryd.prog 15 := ⟨fun _ _ => by kernel_rfl⟩
instance : Fun Tryd.prog 16 := ⟨fun _ _ => by kernel_rfl⟩
instance : Fun Tryd.prog 17 := ⟨fun _ _ => by kernel_rfl⟩
instance : Fun Tryd.prog 18 := ⟨fun _ _ => by kernel_rfl⟩
instance : Fun Tryd.prog 19 := ⟨fun _ _ => by kernel_rfl⟩
instance : Fun Tryd.prog 20 := ⟨fun _ _ => by kernel_rfl⟩
instance : Fun Tryd.prog 21 := ⟨fun _ _ => by kernel_rfl⟩
instance : Fun Tryd.prog 22 := ⟨fun _ _ => by kernel_rfl⟩
instance : Fun Tryd.prog 23 := ⟨fun _ _ => by kernel_rfl⟩
instance : Fun Tryd.prog 24 := ⟨fun _ _ => by kernel_rfl⟩
instance : Fun Tryd.prog 25 := ⟨fun _ _ => by kernel_rfl⟩
instance : Fun Tryd.prog 26 := ⟨fun _ _ => by kernel_rfl⟩
instance : Fun Tryd.prog 27 := ⟨fun _ _ => by kernel_rfl⟩
instance : Fun Tryd.prog 28 := ⟨fun _ _ => by kernel_rfl⟩
instance : Fun Tryd.prog 29 := ⟨fun _ _ => by kernel_rfl⟩
instance : Fun Tryd.prog 30 := ⟨fun _ _ => by kernel_rfl⟩
instance : Fun Tryd.prog 31 := ⟨fun _ _ => by kernel_rfl⟩
instance : Fun Tryd.prog 32 := ⟨fun _ _ => by kernel_rfl⟩
instance : Fun Tryd.prog 33 := ⟨fun _ _ => by kernel_rfl⟩
instance : Fun Tryd.prog 34 := ⟨fun _ _ => by kernel_rfl⟩
instance : Fun Tryd.prog 35 := ⟨fun _ _ => by kernel_rfl⟩
instance : Fun Tryd.prog 36 := ⟨fun _ _ => by kernel_rfl⟩
instance : Fun Tryd.prog 37 := ⟨fun _ _ => by kernel_rfl⟩
instance : Fun Tryd.prog 38 := ⟨fun _ _ => by kernel_rfl⟩
instance : Fun Tryd.prog 39 := ⟨fun _ _ => by kernel_rfl⟩
instance : Fun Tryd.prog 40 := ⟨fun _ _ => by kernel_rfl⟩
instance : Fun Tryd.prog 41 := ⟨fun _ _ => by kernel_rfl⟩
instance : Fun Tryd.prog 42 := ⟨fun _ _ => by kernel_rfl⟩
instance : Fun Tryd.prog 43 := ⟨fun _ _ => by kernel_rfl⟩
instance : Fun Tryd.prog 44 := ⟨fun _ _ => by kernel_rfl⟩
instance : Fun Tryd.prog 45 := ⟨fun _ _ => by kernel_rfl⟩
instance : Fun Tryd.prog 46 := ⟨fun _ _ => by kernel_rfl⟩
instance : Fun Tryd.prog 47 := ⟨fun _ _ => by kernel_rfl⟩
instance : Fun Tryd.prog 48 := ⟨fun _ _ => by kernel_rfl⟩
instance : Fun Tryd.prog 49 := ⟨fun _ _ => by kernel_rfl⟩
instance : Fun Tryd.prog 50 := ⟨fun _ _ => by kernel_rfl⟩
instance : Fun Tryd.prog 51 := ⟨fun _ _ => by kernel_rfl⟩
instance : Fun Tryd.prog 52 := ⟨fun _ _ => by kernel_rfl⟩
instance : Fun Tryd.prog 53 := ⟨fun _ _ => by kernel_rfl⟩
instance : Fun Tryd.prog 54 := ⟨fun _ _ => by kernel_rfl⟩
instance : Fun Tryd.prog 55 := ⟨fun _ _ => by kernel_rfl⟩
instance : Fun Tryd.prog 56 := ⟨fun _ _ => by kernel_rfl⟩
instance : Fun Tryd.prog 57 := ⟨fun _ _ => by kernel_rfl⟩
instance : Fun Tryd.prog 58 := ⟨fun _ _ => by kernel_rfl⟩
instance : Fun Tryd.prog 59 := ⟨fun _ _ => by kernel_rfl⟩
instance : Fun Tryd.prog 60 := ⟨fun _ _ => by kernel_rfl⟩
instance : Fun Tryd.prog 61 := ⟨fun _ _ => by kernel_rfl⟩
instance : Fun Tryd.prog 62 := ⟨fun _ _ => by kernel_rfl⟩
instance : Fun Tryd.prog 63 := ⟨fun _ _ => by kernel_rfl⟩
instance : Fun Tryd.prog 64 := ⟨fun _ _ => by kernel_rfl⟩
instance : Fun Tryd.prog 65 := ⟨fun _ _ => by kernel_rfl⟩
instance : Fun Tryd.prog 66 := ⟨fun _ _ => by kernel_rfl⟩
instance : Fun Tryd.prog 67 := ⟨fun _ _ => by kernel_rfl⟩
instance : Fun Tryd.prog 68 := ⟨fun _ _ => by kernel_rfl⟩
instance : Fun Tryd.prog 69 := ⟨fun _ _ => by kernel_rfl⟩
instance : Fun Tryd.prog 70 := ⟨fun _ _ => by kernel_rfl⟩
instance : Fun Tryd.prog 71 := ⟨fun _ _ => by kernel_rfl⟩
instance : Fun Tryd.prog 72 := ⟨fun _ _ => by kernel_rfl⟩
instance : Fun Tryd.prog 73 := ⟨fun _ _ => by kernel_rfl⟩
instance : Fun Tryd.prog 74 := ⟨fun _ _ => by kernel_rfl⟩
instance : Fun Tryd.prog 75 := ⟨fun _ _ => by kernel_rfl⟩
instance : Fun Tryd.prog 76 := ⟨fun _ _ => by kernel_rfl⟩
instance : Fun Tryd.prog 77 := ⟨fun _ _ => by kernel_rfl⟩
instance : Fun Tryd.prog 78 := ⟨fun _ _ => by kernel_rfl⟩
instance : Fun Tryd.prog 79 := ⟨fun _ _ => by kernel_rfl⟩
instance : Fun Tryd.prog 80 := ⟨fun _ _ => by kernel_rfl⟩
instance : Fun Tryd.prog 81 := ⟨fun _ _ => by kernel_rfl⟩
instance : Fun Tryd.prog 82 := ⟨fun _ _ => by kernel_rfl⟩
instance : Fun Tryd.prog 83 := ⟨fun _ _ => by kernel_rfl⟩
instance : Fun Tryd.prog 84 := ⟨fun _ _ => by kernel_rfl⟩
instance : Fun Tryd.prog 85 := ⟨fun _ _ => by kernel_rfl⟩
instance : Fun Tryd.prog 86 := ⟨fun _ _ => by kernel_rfl⟩
instance : Fun Tryd.prog 87 := ⟨fun _ _ => by kernel_rfl⟩
instance : Fun Tryd.prog 88 := ⟨fun _ _ => by kernel_rfl⟩
instance : Fun Tryd.prog 89 := ⟨fun _ _ => by kernel_rfl⟩
instance : Fun Tryd.prog 90 := ⟨fun _ _ => by kernel_rfl⟩
instance : Fun Tryd.prog 91 := ⟨fun _ _ => by kernel_rfl⟩
instance : Fun Tryd.prog 92 := ⟨fun _ _ => by kernel_rfl⟩
instance : Fun Tryd.prog 93 := ⟨fun _ _ => by kernel_rfl⟩
instance : Fun Tryd.prog 94 := ⟨fun _ _ => by kernel_rfl⟩
instance : Fun Tryd.prog 95 := ⟨fun _ _ => by kernel_rfl⟩
instance : Fun Tryd.prog 96 := ⟨fun _ _ => by kernel_rfl⟩
instance : Fun Tryd.prog 97 := ⟨fun _ _ => by kernel_rfl⟩
instance : Fun Tryd.prog 98 := ⟨fun _ _ => by kernel_rfl⟩
instance : Fun Tryd.prog 99 := ⟨fun _ _ => by kernel_rfl⟩
instance : Fun Tryd.prog 100 := ⟨fun _ _ => by kernel_rfl⟩
instance : Fun Tryd.prog 101 := ⟨fun _ _ => by kernel_rfl⟩
instance : Fun Tryd.prog 102 := ⟨fun _ _ => by kernel_rfl⟩
instance : Fun Tryd.prog 103 := ⟨fun _ _ => by kernel_rfl⟩
instance : Fun Tryd.prog 104 := ⟨fun _ _ => by kernel_rfl⟩
instance : Fun Tryd.prog 105 := ⟨fun _ _ => by kernel_rfl⟩
instance : Fun Tryd.prog 106 := ⟨fun _ _ => by kernel_rfl⟩
instance : Fun Tryd.prog 107 := ⟨fun _ _ => by kernel_rfl⟩
instance : Fun Tryd.prog 108 := ⟨fun _ _ => by kernel_rfl⟩
instance : Fun Tryd.prog 109 := ⟨fun _ _ => by kernel_rfl⟩
instance : Fun Tryd.prog 110 := ⟨fun _ _ => by kernel_rfl⟩
instance : Fun Tryd.prog 130 := ⟨fun _ _ => by kernel_rfl⟩
end Go.Proofs.YtogfficbloejcaaDoor
