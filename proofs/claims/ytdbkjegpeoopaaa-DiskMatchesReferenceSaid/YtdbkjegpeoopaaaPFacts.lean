/- Contracts of functions of this program, each proved by a walk through its code, and plain lemmas on what they compute; on no condition beyond those that each theorem states. -/
import Derived.Test.YtdbkjegpeoopaaaRows
import Derived.Test.YtdbkjegpeoopaaaX
namespace Go.Proofs.Ytdbkjegpeoopaaa
open Go Go.X
set_option maxRecDepth 100000
set_option linter.unusedVariables false
instance : Sc Try.prog 1 := ⟨by kernel_rfl, ⟨_, Try.underlying1, rfl⟩⟩
instance : Sz Try.prog 1 1 := ⟨by kernel_rfl⟩
instance : By Try.prog 1 8 := ⟨by kernel_rfl⟩
instance : Zr Try.prog 1 (.nilFunc) := ⟨by kernel_rfl⟩
instance : Zc Try.prog 1 [.nilFunc] := ⟨⟨.nilFunc, by kernel_rfl, rfl⟩⟩
instance : Sc Try.prog 2 := ⟨by kernel_rfl, ⟨_, Try.underlying2, rfl⟩⟩
instance : Sz Try.prog 2 1 := ⟨by kernel_rfl⟩
instance : By Try.prog 2 8 := ⟨by kernel_rfl⟩
instance : Zr Try.prog 2 (.int .i64 0) := ⟨by kernel_rfl⟩
instance : Zc Try.prog 2 [.int .i64 0] := ⟨⟨.int .i64 0, by kernel_rfl, rfl⟩⟩
instance : Ity Try.prog 2 .i64 := ⟨Try.underlying2⟩
instance : Sc Try.prog 3 := ⟨by kernel_rfl, ⟨_, Try.underlying3, rfl⟩⟩
instance : Sz Try.prog 3 1 := ⟨by kernel_rfl⟩
instance : By Try.prog 3 8 := ⟨by kernel_rfl⟩
instance : Zr Try.prog 3 (.int .i64 0) := ⟨by kernel_rfl⟩
instance : Zc Try.prog 3 [.int .i64 0] := ⟨⟨.int .i64 0, by kernel_rfl, rfl⟩⟩
instance : Ity Try.prog 3 .i64 := ⟨Try.underlying3⟩
instance : Sc Try.prog 4 := ⟨by kernel_rfl, ⟨_, Try.underlying4, rfl⟩⟩
instance : Sz Try.prog 4 1 := ⟨by kernel_rfl⟩
instance : By Try.prog 4 1 := ⟨by kernel_rfl⟩
instance : Zr Try.prog 4 (.bool false) := ⟨by kernel_rfl⟩
instance : Zc Try.prog 4 [.bool false] := ⟨⟨.bool false, by kernel_rfl, rfl⟩⟩
instance : Boo Try.prog 4 := ⟨Try.underlying4⟩
instance : Sc Try.prog 5 := ⟨by kernel_rfl, ⟨_, Try.underlying5, rfl⟩⟩
instance : Sz Try.prog 5 1 := ⟨by kernel_rfl⟩
instance : By Try.prog 5 1 := ⟨by kernel_rfl⟩
instance : Zr Try.prog 5 (.int .u8 0) := ⟨by kernel_rfl⟩
instance : Zc Try.prog 5 [.int .u8 0] := ⟨⟨.int .u8 0, by kernel_rfl, rfl⟩⟩
instance : Ity Try.prog 5 .u8 := ⟨Try.underlying5⟩
instance : Sc Try.prog 6 := ⟨by kernel_rfl, ⟨_, Try.underlying6, rfl⟩⟩
instance : Sz Try.prog 6 1 := ⟨by kernel_rfl⟩
instance : By Try.prog 6 1 := ⟨by kernel_rfl⟩
instance : Zr Try.prog 6 (.int .u8 0) := ⟨by kernel_rfl⟩
instance : Zc Try.prog 6 [.int .u8 0] := ⟨⟨.int .u8 0, by kernel_rfl, rfl⟩⟩
instance : Ity Try.prog 6 .u8 := ⟨Try.underlying6⟩
instance : Ag Try.prog 7 4 := ⟨by kernel_rfl, ⟨_, Try.underlying7, rfl⟩⟩
instance : Sz Try.prog 7 4 := ⟨by kernel_rfl⟩
instance : By Try.prog 7 24 := ⟨by kernel_rfl⟩
instance : Zr Try.prog 7 (.agg #[.int .i64 0, .int .i64 0, .bool false, .int .u8 0]) := ⟨by kernel_rfl⟩
instance : Zc Try.prog 7 [.int .i64 0, .int .i64 0, .bool false, .int .u8 0] := ⟨⟨.agg #[.int .i64 0, .int .i64 0, .bool false, .int .u8 0], by kernel_rfl, rfl⟩⟩
instance : Fi Try.prog 7 0 0 2 := ⟨⟨_, _, Try.underlying7, rfl, rfl, rfl⟩, ⟨1, by kernel_rfl, by decide⟩⟩
instance : Fi Try.prog 7 1 1 3 := ⟨⟨_, _, Try.underlying7, rfl, rfl, rfl⟩, ⟨1, by kernel_rfl, by decide⟩⟩
instance : Fi Try.prog 7 2 2 4 := ⟨⟨_, _, Try.underlying7, rfl, rfl, rfl⟩, ⟨1, by kernel_rfl, by decide⟩⟩
instance : Fi Try.prog 7 3 3 6 := ⟨⟨_, _, Try.underlying7, rfl, rfl, rfl⟩, ⟨1, by kernel_rfl, by decide⟩⟩
instance : Bd Try.prog 7 (fun i : Nat => ([(0, 1), (1, 1), (2, 1), (3, 1)] : List (Nat × Nat))[i]?) (Value.cells (.agg #[.int .i64 0, .int .i64 0, .bool false, .int .u8 0])) := bd_struct Try.underlying7 (by kernel_rfl) (by kernel_rfl)
instance : Ag Try.prog 8 4 := ⟨by kernel_rfl, ⟨_, Try.underlying8, rfl⟩⟩
instance : Sz Try.prog 8 4 := ⟨by kernel_rfl⟩
instance : By Try.prog 8 24 := ⟨by kernel_rfl⟩
instance : Zr Try.prog 8 (.agg #[.int .i64 0, .int .i64 0, .bool false, .int .u8 0]) := ⟨by kernel_rfl⟩
instance : Zc Try.prog 8 [.int .i64 0, .int .i64 0, .bool false, .int .u8 0] := ⟨⟨.agg #[.int .i64 0, .int .i64 0, .bool false, .int .u8 0], by kernel_rfl, rfl⟩⟩
instance : Fi Try.prog 8 0 0 2 := ⟨⟨_, _, Try.underlying8, rfl, rfl, rfl⟩, ⟨1, by kernel_rfl, by decide⟩⟩
instance : Fi Try.prog 8 1 1 3 := ⟨⟨_, _, Try.underlying8, rfl, rfl, rfl⟩, ⟨1, by kernel_rfl, by decide⟩⟩
instance : Fi Try.prog 8 2 2 4 := ⟨⟨_, _, Try.underlying8, rfl, rfl, rfl⟩, ⟨1, by kernel_rfl, by decide⟩⟩
instance : Fi Try.prog 8 3 3 6 := ⟨⟨_, _, Try.underlying8, rfl, rfl, rfl⟩, ⟨1, by kernel_rfl, by decide⟩⟩
instance : Bd Try.prog 8 (fun i : Nat => ([(0, 1), (1, 1), (2, 1), (3, 1)] : List (Nat × Nat))[i]?) (Value.cells (.agg #[.int .i64 0, .int .i64 0, .bool false, .int .u8 0])) := bd_struct Try.underlying8 (by kernel_rfl) (by kernel_rfl)
instance : Sc Try.prog 9 := ⟨by kernel_rfl, ⟨_, Try.underlying9, rfl⟩⟩
instance : Sz Try.prog 9 1 := ⟨by kernel_rfl⟩
instance : By Try.prog 9 16 := ⟨by kernel_rfl⟩
instance : Zr Try.prog 9 (.string ByteArray.empty) := ⟨by kernel_rfl⟩
instance : Zc Try.prog 9 [.string ByteArray.empty] := ⟨⟨.string ByteArray.empty, by kernel_rfl, rfl⟩⟩
instance : Strg Try.prog 9 := ⟨Try.underlying9⟩
instance : Sc Try.prog 10 := ⟨by kernel_rfl, ⟨_, Try.underlying10, rfl⟩⟩
instance : Sz Try.prog 10 1 := ⟨by kernel_rfl⟩
instance : By Try.prog 10 16 := ⟨by kernel_rfl⟩
instance : Zr Try.prog 10 (.string ByteArray.empty) := ⟨by kernel_rfl⟩
instance : Zc Try.prog 10 [.string ByteArray.empty] := ⟨⟨.string ByteArray.empty, by kernel_rfl, rfl⟩⟩
instance : Strg Try.prog 10 := ⟨Try.underlying10⟩
instance : Sc Try.prog 11 := ⟨by kernel_rfl, ⟨_, Try.underlying11, rfl⟩⟩
instance : Sz Try.prog 11 1 := ⟨by kernel_rfl⟩
instance : By Try.prog 11 16 := ⟨by kernel_rfl⟩
instance : Zr Try.prog 11 (.string ByteArray.empty) := ⟨by kernel_rfl⟩
instance : Zc Try.prog 11 [.string ByteArray.empty] := ⟨⟨.string ByteArray.empty, by kernel_rfl, rfl⟩⟩
instance : Strg Try.prog 11 := ⟨Try.underlying11⟩
instance : Sc Try.prog 12 := ⟨by kernel_rfl, ⟨_, Try.underlying12, rfl⟩⟩
instance : Sz Try.prog 12 1 := ⟨by kernel_rfl⟩
instance : By Try.prog 12 8 := ⟨by kernel_rfl⟩
instance : Zr Try.prog 12 (.int .u64 0) := ⟨by kernel_rfl⟩
instance : Zc Try.prog 12 [.int .u64 0] := ⟨⟨.int .u64 0, by kernel_rfl, rfl⟩⟩
instance : Ity Try.prog 12 .u64 := ⟨Try.underlying12⟩
instance : Ag Try.prog 13 2 := ⟨by kernel_rfl, ⟨_, Try.underlying13, rfl⟩⟩
instance : Sz Try.prog 13 2 := ⟨by kernel_rfl⟩
instance : By Try.prog 13 24 := ⟨by kernel_rfl⟩
instance : Zr Try.prog 13 (.agg #[.string ByteArray.empty, .int .u64 0]) := ⟨by kernel_rfl⟩
instance : Zc Try.prog 13 [.string ByteArray.empty, .int .u64 0] := ⟨⟨.agg #[.string ByteArray.empty, .int .u64 0], by kernel_rfl, rfl⟩⟩
instance : Fi Try.prog 13 0 0 9 := ⟨⟨_, _, Try.underlying13, rfl, rfl, rfl⟩, ⟨1, by kernel_rfl, by decide⟩⟩
instance : Fi Try.prog 13 1 1 12 := ⟨⟨_, _, Try.underlying13, rfl, rfl, rfl⟩, ⟨1, by kernel_rfl, by decide⟩⟩
instance : Bd Try.prog 13 (fun i : Nat => ([(0, 1), (1, 1)] : List (Nat × Nat))[i]?) (Value.cells (.agg #[.string ByteArray.empty, .int .u64 0])) := bd_struct Try.underlying13 (by kernel_rfl) (by kernel_rfl)
instance : Ag Try.prog 14 2 := ⟨by kernel_rfl, ⟨_, Try.underlying14, rfl⟩⟩
instance : Sz Try.prog 14 2 := ⟨by kernel_rfl⟩
instance : By Try.prog 14 24 := ⟨by kernel_rfl⟩
instance : Zr Try.prog 14 (.agg #[.string ByteArray.empty, .int .u64 0]) := ⟨by kernel_rfl⟩
instance : Zc Try.prog 14 [.string ByteArray.empty, .int .u64 0] := ⟨⟨.agg #[.string ByteArray.empty, .int .u64 0], by kernel_rfl, rfl⟩⟩
instance : Fi Try.prog 14 0 0 9 := ⟨⟨_, _, Try.underlying14, rfl, rfl, rfl⟩, ⟨1, by kernel_rfl, by decide⟩⟩
instance : Fi Try.prog 14 1 1 12 := ⟨⟨_, _, Try.underlying14, rfl, rfl, rfl⟩, ⟨1, by kernel_rfl, by decide⟩⟩
instance : Bd Try.prog 14 (fun i : Nat => ([(0, 1), (1, 1)] : List (Nat × Nat))[i]?) (Value.cells (.agg #[.string ByteArray.empty, .int .u64 0])) := bd_struct Try.underlying14 (by kernel_rfl) (by kernel_rfl)
instance : Sc Try.prog 15 := ⟨by kernel_rfl, ⟨_, Try.underlying15, rfl⟩⟩
instance : Sz Try.prog 15 1 := ⟨by kernel_rfl⟩
instance : By Try.prog 15 8 := ⟨by kernel_rfl⟩
instance : Zr Try.prog 15 (.pointer none) := ⟨by kernel_rfl⟩
instance : Zc Try.prog 15 [.pointer none] := ⟨⟨.pointer none, by kernel_rfl, rfl⟩⟩
instance : Sc Try.prog 16 := ⟨by kernel_rfl, ⟨_, Try.underlying16, rfl⟩⟩
instance : Sz Try.prog 16 1 := ⟨by kernel_rfl⟩
instance : By Try.prog 16 8 := ⟨by kernel_rfl⟩
instance : Zr Try.prog 16 (.pointer none) := ⟨by kernel_rfl⟩
instance : Zc Try.prog 16 [.pointer none] := ⟨⟨.pointer none, by kernel_rfl, rfl⟩⟩
instance : Sc Try.prog 17 := ⟨by kernel_rfl, ⟨_, Try.underlying17, rfl⟩⟩
instance : Sz Try.prog 17 1 := ⟨by kernel_rfl⟩
instance : By Try.prog 17 8 := ⟨by kernel_rfl⟩
instance : Zr Try.prog 17 (.pointer none) := ⟨by kernel_rfl⟩
instance : Zc Try.prog 17 [.pointer none] := ⟨⟨.pointer none, by kernel_rfl, rfl⟩⟩
instance : Ag Try.prog 18 1 := ⟨by kernel_rfl, ⟨_, Try.underlying18, rfl⟩⟩
instance : Sz Try.prog 18 1 := ⟨by kernel_rfl⟩
instance : By Try.prog 18 8 := ⟨by kernel_rfl⟩
instance : Zr Try.prog 18 (.agg #[.pointer none]) := ⟨by kernel_rfl⟩
instance : Zc Try.prog 18 [.pointer none] := ⟨⟨.agg #[.pointer none], by kernel_rfl, rfl⟩⟩
instance : Fi Try.prog 18 0 0 17 := ⟨⟨_, _, Try.underlying18, rfl, rfl, rfl⟩, ⟨1, by kernel_rfl, by decide⟩⟩
instance : Bd Try.prog 18 (fun i : Nat => ([(0, 1)] : List (Nat × Nat))[i]?) (Value.cells (.agg #[.pointer none])) := bd_struct Try.underlying18 (by kernel_rfl) (by kernel_rfl)
instance : Ag Try.prog 19 1 := ⟨by kernel_rfl, ⟨_, Try.underlying19, rfl⟩⟩
instance : Sz Try.prog 19 1 := ⟨by kernel_rfl⟩
instance : By Try.prog 19 8 := ⟨by kernel_rfl⟩
instance : Zr Try.prog 19 (.agg #[.pointer none]) := ⟨by kernel_rfl⟩
instance : Zc Try.prog 19 [.pointer none] := ⟨⟨.agg #[.pointer none], by kernel_rfl, rfl⟩⟩
instance : Fi Try.prog 19 0 0 17 := ⟨⟨_, _, Try.underlying19, rfl, rfl, rfl⟩, ⟨1, by kernel_rfl, by decide⟩⟩
instance : Bd Try.prog 19 (fun i : Nat => ([(0, 1)] : List (Nat × Nat))[i]?) (Value.cells (.agg #[.pointer none])) := bd_struct Try.underlying19 (by kernel_rfl) (by kernel_rfl)
instance : Sc Try.prog 20 := ⟨by kernel_rfl, ⟨_, Try.underlying20, rfl⟩⟩
instance : Sz Try.prog 20 1 := ⟨by kernel_rfl⟩
instance : By Try.prog 20 16 := ⟨by kernel_rfl⟩
instance : Zr Try.prog 20 (.nilIface) := ⟨by kernel_rfl⟩
instance : Zc Try.prog 20 [.nilIface] := ⟨⟨.nilIface, by kernel_rfl, rfl⟩⟩
instance : Sc Try.prog 21 := ⟨by kernel_rfl, ⟨_, Try.underlying21, rfl⟩⟩
instance : Sz Try.prog 21 1 := ⟨by kernel_rfl⟩
instance : By Try.prog 21 4 := ⟨by kernel_rfl⟩
instance : Zr Try.prog 21 (.int .i32 0) := ⟨by kernel_rfl⟩
instance : Zc Try.prog 21 [.int .i32 0] := ⟨⟨.int .i32 0, by kernel_rfl, rfl⟩⟩
instance : Ity Try.prog 21 .i32 := ⟨Try.underlying21⟩
instance : Sc Try.prog 22 := ⟨by kernel_rfl, ⟨_, Try.underlying22, rfl⟩⟩
instance : Sz Try.prog 22 1 := ⟨by kernel_rfl⟩
instance : By Try.prog 22 8 := ⟨by kernel_rfl⟩
instance : Zr Try.prog 22 (.nilFunc) := ⟨by kernel_rfl⟩
instance : Zc Try.prog 22 [.nilFunc] := ⟨⟨.nilFunc, by kernel_rfl, rfl⟩⟩
instance : Sc Try.prog 23 := ⟨by kernel_rfl, ⟨_, Try.underlying23, rfl⟩⟩
instance : Sz Try.prog 23 1 := ⟨by kernel_rfl⟩
instance : By Try.prog 23 8 := ⟨by kernel_rfl⟩
instance : Zr Try.prog 23 (.pointer none) := ⟨by kernel_rfl⟩
instance : Zc Try.prog 23 [.pointer none] := ⟨⟨.pointer none, by kernel_rfl, rfl⟩⟩
instance : Sc Try.prog 24 := ⟨by kernel_rfl, ⟨_, Try.underlying24, rfl⟩⟩
instance : Sz Try.prog 24 1 := ⟨by kernel_rfl⟩
instance : By Try.prog 24 8 := ⟨by kernel_rfl⟩
instance : Zr Try.prog 24 (.int .i64 0) := ⟨by kernel_rfl⟩
instance : Zc Try.prog 24 [.int .i64 0] := ⟨⟨.int .i64 0, by kernel_rfl, rfl⟩⟩
instance : Ity Try.prog 24 .i64 := ⟨Try.underlying24⟩
instance : Sc Try.prog 26 := ⟨by kernel_rfl, ⟨_, Try.underlying26, rfl⟩⟩
instance : Sz Try.prog 26 1 := ⟨by kernel_rfl⟩
instance : By Try.prog 26 8 := ⟨by kernel_rfl⟩
instance : Zr Try.prog 26 (.nilFunc) := ⟨by kernel_rfl⟩
instance : Zc Try.prog 26 [.nilFunc] := ⟨⟨.nilFunc, by kernel_rfl, rfl⟩⟩
instance : Sc Try.prog 28 := ⟨by kernel_rfl, ⟨_, Try.underlying28, rfl⟩⟩
instance : Sz Try.prog 28 1 := ⟨by kernel_rfl⟩
instance : By Try.prog 28 8 := ⟨by kernel_rfl⟩
instance : Zr Try.prog 28 (.nilFunc) := ⟨by kernel_rfl⟩
instance : Zc Try.prog 28 [.nilFunc] := ⟨⟨.nilFunc, by kernel_rfl, rfl⟩⟩
instance : Sc Try.prog 29 := ⟨by kernel_rfl, ⟨_, Try.underlying29, rfl⟩⟩
instance : Sz Try.prog 29 1 := ⟨by kernel_rfl⟩
instance : By Try.prog 29 8 := ⟨by kernel_rfl⟩
instance : Zr Try.prog 29 (.nilFunc) := ⟨by kernel_rfl⟩
instance : Zc Try.prog 29 [.nilFunc] := ⟨⟨.nilFunc, by kernel_rfl, rfl⟩⟩
instance : Sc Try.prog 30 := ⟨by kernel_rfl, ⟨_, Try.underlying30, rfl⟩⟩
instance : Sz Try.prog 30 1 := ⟨by kernel_rfl⟩
instance : By Try.prog 30 8 := ⟨by kernel_rfl⟩
instance : Zr Try.prog 30 (.nilFunc) := ⟨by kernel_rfl⟩
instance : Zc Try.prog 30 [.nilFunc] := ⟨⟨.nilFunc, by kernel_rfl, rfl⟩⟩
instance : Sc Try.prog 31 := ⟨by kernel_rfl, ⟨_, Try.underlying31, rfl⟩⟩
instance : Sz Try.prog 31 1 := ⟨by kernel_rfl⟩
instance : By Try.prog 31 8 := ⟨by kernel_rfl⟩
instance : Zr Try.prog 31 (.nilFunc) := ⟨by kernel_rfl⟩
instance : Zc Try.prog 31 [.nilFunc] := ⟨⟨.nilFunc, by kernel_rfl, rfl⟩⟩
instance : Sc Try.prog 32 := ⟨by kernel_rfl, ⟨_, Try.underlying32, rfl⟩⟩
instance : Sz Try.prog 32 1 := ⟨by kernel_rfl⟩
instance : By Try.prog 32 24 := ⟨by kernel_rfl⟩
instance : Zr Try.prog 32 (.slice none 0 0) := ⟨by kernel_rfl⟩
instance : Zc Try.prog 32 [.slice none 0 0] := ⟨⟨.slice none 0 0, by kernel_rfl, rfl⟩⟩
instance : Sli Try.prog 32 39 := ⟨Try.underlying32⟩
instance : Sc Try.prog 33 := ⟨by kernel_rfl, ⟨_, Try.underlying33, rfl⟩⟩
instance : Sz Try.prog 33 1 := ⟨by kernel_rfl⟩
instance : By Try.prog 33 8 := ⟨by kernel_rfl⟩
instance : Zr Try.prog 33 (.pointer none) := ⟨by kernel_rfl⟩
instance : Zc Try.prog 33 [.pointer none] := ⟨⟨.pointer none, by kernel_rfl, rfl⟩⟩
instance : Sc Try.prog 35 := ⟨by kernel_rfl, ⟨_, Try.underlying35, rfl⟩⟩
instance : Sz Try.prog 35 1 := ⟨by kernel_rfl⟩
instance : By Try.prog 35 8 := ⟨by kernel_rfl⟩
instance : Zr Try.prog 35 (.nilFunc) := ⟨by kernel_rfl⟩
instance : Zc Try.prog 35 [.nilFunc] := ⟨⟨.nilFunc, by kernel_rfl, rfl⟩⟩
instance : Sc Try.prog 36 := ⟨by kernel_rfl, ⟨_, Try.underlying36, rfl⟩⟩
instance : Sz Try.prog 36 1 := ⟨by kernel_rfl⟩
instance : By Try.prog 36 8 := ⟨by kernel_rfl⟩
instance : Zr Try.prog 36 (.nilFunc) := ⟨by kernel_rfl⟩
instance : Zc Try.prog 36 [.nilFunc] := ⟨⟨.nilFunc, by kernel_rfl, rfl⟩⟩
instance : Sc Try.prog 37 := ⟨by kernel_rfl, ⟨_, Try.underlying37, rfl⟩⟩
instance : Sz Try.prog 37 1 := ⟨by kernel_rfl⟩
instance : By Try.prog 37 24 := ⟨by kernel_rfl⟩
instance : Zr Try.prog 37 (.slice none 0 0) := ⟨by kernel_rfl⟩
instance : Zc Try.prog 37 [.slice none 0 0] := ⟨⟨.slice none 0 0, by kernel_rfl, rfl⟩⟩
instance : Sli Try.prog 37 3 := ⟨Try.underlying37⟩
instance : Ag Try.prog 38 5 := ⟨by kernel_rfl, ⟨_, Try.underlying38, rfl⟩⟩
instance : Sz Try.prog 38 5 := ⟨by kernel_rfl⟩
instance : By Try.prog 38 64 := ⟨by kernel_rfl⟩
instance : Zr Try.prog 38 (.agg #[.int .i64 0, .int .i64 0, .int .i64 0, .string ByteArray.empty, .slice none 0 0]) := ⟨by kernel_rfl⟩
instance : Zc Try.prog 38 [.int .i64 0, .int .i64 0, .int .i64 0, .string ByteArray.empty, .slice none 0 0] := ⟨⟨.agg #[.int .i64 0, .int .i64 0, .int .i64 0, .string ByteArray.empty, .slice none 0 0], by kernel_rfl, rfl⟩⟩
instance : Fi Try.prog 38 0 0 3 := ⟨⟨_, _, Try.underlying38, rfl, rfl, rfl⟩, ⟨1, by kernel_rfl, by decide⟩⟩
instance : Fi Try.prog 38 1 1 3 := ⟨⟨_, _, Try.underlying38, rfl, rfl, rfl⟩, ⟨1, by kernel_rfl, by decide⟩⟩
instance : Fi Try.prog 38 2 2 3 := ⟨⟨_, _, Try.underlying38, rfl, rfl, rfl⟩, ⟨1, by kernel_rfl, by decide⟩⟩
instance : Fi Try.prog 38 3 3 9 := ⟨⟨_, _, Try.underlying38, rfl, rfl, rfl⟩, ⟨1, by kernel_rfl, by decide⟩⟩
instance : Fi Try.prog 38 4 4 37 := ⟨⟨_, _, Try.underlying38, rfl, rfl, rfl⟩, ⟨1, by kernel_rfl, by decide⟩⟩
instance : Bd Try.prog 38 (fun i : Nat => ([(0, 1), (1, 1), (2, 1), (3, 1), (4, 1)] : List (Nat × Nat))[i]?) (Value.cells (.agg #[.int .i64 0, .int .i64 0, .int .i64 0, .string ByteArray.empty, .slice none 0 0])) := bd_struct Try.underlying38 (by kernel_rfl) (by kernel_rfl)
instance : Ag Try.prog 39 5 := ⟨by kernel_rfl, ⟨_, Try.underlying39, rfl⟩⟩
instance : Sz Try.prog 39 5 := ⟨by kernel_rfl⟩
instance : By Try.prog 39 64 := ⟨by kernel_rfl⟩
instance : Zr Try.prog 39 (.agg #[.int .i64 0, .int .i64 0, .int .i64 0, .string ByteArray.empty, .slice none 0 0]) := ⟨by kernel_rfl⟩
instance : Zc Try.prog 39 [.int .i64 0, .int .i64 0, .int .i64 0, .string ByteArray.empty, .slice none 0 0] := ⟨⟨.agg #[.int .i64 0, .int .i64 0, .int .i64 0, .string ByteArray.empty, .slice none 0 0], by kernel_rfl, rfl⟩⟩
instance : Fi Try.prog 39 0 0 3 := ⟨⟨_, _, Try.underlying39, rfl, rfl, rfl⟩, ⟨1, by kernel_rfl, by decide⟩⟩
instance : Fi Try.prog 39 1 1 3 := ⟨⟨_, _, Try.underlying39, rfl, rfl, rfl⟩, ⟨1, by kernel_rfl, by decide⟩⟩
instance : Fi Try.prog 39 2 2 3 := ⟨⟨_, _, Try.underlying39, rfl, rfl, rfl⟩, ⟨1, by kernel_rfl, by decide⟩⟩
instance : Fi Try.prog 39 3 3 9 := ⟨⟨_, _, Try.underlying39, rfl, rfl, rfl⟩, ⟨1, by kernel_rfl, by decide⟩⟩
instance : Fi Try.prog 39 4 4 37 := ⟨⟨_, _, Try.underlying39, rfl, rfl, rfl⟩, ⟨1, by kernel_rfl, by decide⟩⟩
instance : Bd Try.prog 39 (fun i : Nat => ([(0, 1), (1, 1), (2, 1), (3, 1), (4, 1)] : List (Nat × Nat))[i]?) (Value.cells (.agg #[.int .i64 0, .int .i64 0, .int .i64 0, .string ByteArray.empty, .slice none 0 0])) := bd_struct Try.underlying39 (by kernel_rfl) (by kernel_rfl)
instance : Sc Try.prog 40 := ⟨by kernel_rfl, ⟨_, Try.underlying40, rfl⟩⟩
instance : Sz Try.prog 40 1 := ⟨by kernel_rfl⟩
instance : By Try.prog 40 24 := ⟨by kernel_rfl⟩
instance : Zr Try.prog 40 (.slice none 0 0) := ⟨by kernel_rfl⟩
instance : Zc Try.prog 40 [.slice none 0 0] := ⟨⟨.slice none 0 0, by kernel_rfl, rfl⟩⟩
instance : Sli Try.prog 40 5 := ⟨Try.underlying40⟩
instance : Sc Try.prog 41 := ⟨by kernel_rfl, ⟨_, Try.underlying41, rfl⟩⟩
instance : Sz Try.prog 41 1 := ⟨by kernel_rfl⟩
instance : By Try.prog 41 24 := ⟨by kernel_rfl⟩
instance : Zr Try.prog 41 (.slice none 0 0) := ⟨by kernel_rfl⟩
instance : Zc Try.prog 41 [.slice none 0 0] := ⟨⟨.slice none 0 0, by kernel_rfl, rfl⟩⟩
instance : Sli Try.prog 41 80 := ⟨Try.underlying41⟩
instance : Ag Try.prog 42 4 := ⟨by kernel_rfl, ⟨_, Try.underlying42, rfl⟩⟩
instance : Sz Try.prog 42 4 := ⟨by kernel_rfl⟩
instance : By Try.prog 42 64 := ⟨by kernel_rfl⟩
instance : Zr Try.prog 42 (.agg #[.slice none 0 0, .slice none 0 0, .bool false, .int .i64 0]) := ⟨by kernel_rfl⟩
instance : Zc Try.prog 42 [.slice none 0 0, .slice none 0 0, .bool false, .int .i64 0] := ⟨⟨.agg #[.slice none 0 0, .slice none 0 0, .bool false, .int .i64 0], by kernel_rfl, rfl⟩⟩
instance : Fi Try.prog 42 0 0 40 := ⟨⟨_, _, Try.underlying42, rfl, rfl, rfl⟩, ⟨1, by kernel_rfl, by decide⟩⟩
instance : Fi Try.prog 42 1 1 41 := ⟨⟨_, _, Try.underlying42, rfl, rfl, rfl⟩, ⟨1, by kernel_rfl, by decide⟩⟩
instance : Fi Try.prog 42 2 2 4 := ⟨⟨_, _, Try.underlying42, rfl, rfl, rfl⟩, ⟨1, by kernel_rfl, by decide⟩⟩
instance : Fi Try.prog 42 3 3 3 := ⟨⟨_, _, Try.underlying42, rfl, rfl, rfl⟩, ⟨1, by kernel_rfl, by decide⟩⟩
instance : Bd Try.prog 42 (fun i : Nat => ([(0, 1), (1, 1), (2, 1), (3, 1)] : List (Nat × Nat))[i]?) (Value.cells (.agg #[.slice none 0 0, .slice none 0 0, .bool false, .int .i64 0])) := bd_struct Try.underlying42 (by kernel_rfl) (by kernel_rfl)
instance : Ag Try.prog 43 4 := ⟨by kernel_rfl, ⟨_, Try.underlying43, rfl⟩⟩
instance : Sz Try.prog 43 4 := ⟨by kernel_rfl⟩
instance : By Try.prog 43 64 := ⟨by kernel_rfl⟩
instance : Zr Try.prog 43 (.agg #[.slice none 0 0, .slice none 0 0, .bool false, .int .i64 0]) := ⟨by kernel_rfl⟩
instance : Zc Try.prog 43 [.slice none 0 0, .slice none 0 0, .bool false, .int .i64 0] := ⟨⟨.agg #[.slice none 0 0, .slice none 0 0, .bool false, .int .i64 0], by kernel_rfl, rfl⟩⟩
instance : Fi Try.prog 43 0 0 40 := ⟨⟨_, _, Try.underlying43, rfl, rfl, rfl⟩, ⟨1, by kernel_rfl, by decide⟩⟩
instance : Fi Try.prog 43 1 1 41 := ⟨⟨_, _, Try.underlying43, rfl, rfl, rfl⟩, ⟨1, by kernel_rfl, by decide⟩⟩
instance : Fi Try.prog 43 2 2 4 := ⟨⟨_, _, Try.underlying43, rfl, rfl, rfl⟩, ⟨1, by kernel_rfl, by decide⟩⟩
instance : Fi Try.prog 43 3 3 3 := ⟨⟨_, _, Try.underlying43, rfl, rfl, rfl⟩, ⟨1, by kernel_rfl, by decide⟩⟩
instance : Bd Try.prog 43 (fun i : Nat => ([(0, 1), (1, 1), (2, 1), (3, 1)] : List (Nat × Nat))[i]?) (Value.cells (.agg #[.slice none 0 0, .slice none 0 0, .bool false, .int .i64 0])) := bd_struct Try.underlying43 (by kernel_rfl) (by kernel_rfl)
instance : Sc Try.prog 44 := ⟨by kernel_rfl, ⟨_, Try.underlying44, rfl⟩⟩
instance : Sz Try.prog 44 1 := ⟨by kernel_rfl⟩
instance : By Try.prog 44 8 := ⟨by kernel_rfl⟩
instance : Zr Try.prog 44 (.nilFunc) := ⟨by kernel_rfl⟩
instance : Zc Try.prog 44 [.nilFunc] := ⟨⟨.nilFunc, by kernel_rfl, rfl⟩⟩
instance : Sc Try.prog 45 := ⟨by kernel_rfl, ⟨_, Try.underlying45, rfl⟩⟩
instance : Sz Try.prog 45 1 := ⟨by kernel_rfl⟩
instance : By Try.prog 45 8 := ⟨by kernel_rfl⟩
instance : Zr Try.prog 45 (.nilFunc) := ⟨by kernel_rfl⟩
instance : Zc Try.prog 45 [.nilFunc] := ⟨⟨.nilFunc, by kernel_rfl, rfl⟩⟩
instance : Sc Try.prog 46 := ⟨by kernel_rfl, ⟨_, Try.underlying46, rfl⟩⟩
instance : Sz Try.prog 46 1 := ⟨by kernel_rfl⟩
instance : By Try.prog 46 8 := ⟨by kernel_rfl⟩
instance : Zr Try.prog 46 (.nilFunc) := ⟨by kernel_rfl⟩
instance : Zc Try.prog 46 [.nilFunc] := ⟨⟨.nilFunc, by kernel_rfl, rfl⟩⟩
instance : Sc Try.prog 47 := ⟨by kernel_rfl, ⟨_, Try.underlying47, rfl⟩⟩
instance : Sz Try.prog 47 1 := ⟨by kernel_rfl⟩
instance : By Try.prog 47 8 := ⟨by kernel_rfl⟩
instance : Zr Try.prog 47 (.nilFunc) := ⟨by kernel_rfl⟩
instance : Zc Try.prog 47 [.nilFunc] := ⟨⟨.nilFunc, by kernel_rfl, rfl⟩⟩
instance : Sc Try.prog 48 := ⟨by kernel_rfl, ⟨_, Try.underlying48, rfl⟩⟩
instance : Sz Try.prog 48 1 := ⟨by kernel_rfl⟩
instance : By Try.prog 48 8 := ⟨by kernel_rfl⟩
instance : Zr Try.prog 48 (.nilFunc) := ⟨by kernel_rfl⟩
instance : Zc Try.prog 48 [.nilFunc] := ⟨⟨.nilFunc, by kernel_rfl, rfl⟩⟩
instance : Sc Try.prog 49 := ⟨by kernel_rfl, ⟨_, Try.underlying49, rfl⟩⟩
instance : Sz Try.prog 49 1 := ⟨by kernel_rfl⟩
instance : By Try.prog 49 8 := ⟨by kernel_rfl⟩
instance : Zr Try.prog 49 (.nilFunc) := ⟨by kernel_rfl⟩
instance : Zc Try.prog 49 [.nilFunc] := ⟨⟨.nilFunc, by kernel_rfl, rfl⟩⟩
instance : Sc Try.prog 50 := ⟨by kernel_rfl, ⟨_, Try.underlying50, rfl⟩⟩
instance : Sz Try.prog 50 1 := ⟨by kernel_rfl⟩
instance : By Try.prog 50 8 := ⟨by kernel_rfl⟩
instance : Zr Try.prog 50 (.nilFunc) := ⟨by kernel_rfl⟩
instance : Zc Try.prog 50 [.nilFunc] := ⟨⟨.nilFunc, by kernel_rfl, rfl⟩⟩
instance : Sc Try.prog 51 := ⟨by kernel_rfl, ⟨_, Try.underlying51, rfl⟩⟩
instance : Sz Try.prog 51 1 := ⟨by kernel_rfl⟩
instance : By Try.prog 51 24 := ⟨by kernel_rfl⟩
instance : Zr Try.prog 51 (.slice none 0 0) := ⟨by kernel_rfl⟩
instance : Zc Try.prog 51 [.slice none 0 0] := ⟨⟨.slice none 0 0, by kernel_rfl, rfl⟩⟩
instance : Sli Try.prog 51 53 := ⟨Try.underlying51⟩
instance : Ag Try.prog 52 3 := ⟨by kernel_rfl, ⟨_, Try.underlying52, rfl⟩⟩
instance : Sz Try.prog 52 3 := ⟨by kernel_rfl⟩
instance : By Try.prog 52 32 := ⟨by kernel_rfl⟩
instance : Zr Try.prog 52 (.agg #[.int .i64 0, .string ByteArray.empty, .bool false]) := ⟨by kernel_rfl⟩
instance : Zc Try.prog 52 [.int .i64 0, .string ByteArray.empty, .bool false] := ⟨⟨.agg #[.int .i64 0, .string ByteArray.empty, .bool false], by kernel_rfl, rfl⟩⟩
instance : Fi Try.prog 52 0 0 3 := ⟨⟨_, _, Try.underlying52, rfl, rfl, rfl⟩, ⟨1, by kernel_rfl, by decide⟩⟩
instance : Fi Try.prog 52 1 1 9 := ⟨⟨_, _, Try.underlying52, rfl, rfl, rfl⟩, ⟨1, by kernel_rfl, by decide⟩⟩
instance : Fi Try.prog 52 2 2 4 := ⟨⟨_, _, Try.underlying52, rfl, rfl, rfl⟩, ⟨1, by kernel_rfl, by decide⟩⟩
instance : Bd Try.prog 52 (fun i : Nat => ([(0, 1), (1, 1), (2, 1)] : List (Nat × Nat))[i]?) (Value.cells (.agg #[.int .i64 0, .string ByteArray.empty, .bool false])) := bd_struct Try.underlying52 (by kernel_rfl) (by kernel_rfl)
instance : Ag Try.prog 53 3 := ⟨by kernel_rfl, ⟨_, Try.underlying53, rfl⟩⟩
instance : Sz Try.prog 53 3 := ⟨by kernel_rfl⟩
instance : By Try.prog 53 32 := ⟨by kernel_rfl⟩
instance : Zr Try.prog 53 (.agg #[.int .i64 0, .string ByteArray.empty, .bool false]) := ⟨by kernel_rfl⟩
instance : Zc Try.prog 53 [.int .i64 0, .string ByteArray.empty, .bool false] := ⟨⟨.agg #[.int .i64 0, .string ByteArray.empty, .bool false], by kernel_rfl, rfl⟩⟩
instance : Fi Try.prog 53 0 0 3 := ⟨⟨_, _, Try.underlying53, rfl, rfl, rfl⟩, ⟨1, by kernel_rfl, by decide⟩⟩
instance : Fi Try.prog 53 1 1 9 := ⟨⟨_, _, Try.underlying53, rfl, rfl, rfl⟩, ⟨1, by kernel_rfl, by decide⟩⟩
instance : Fi Try.prog 53 2 2 4 := ⟨⟨_, _, Try.underlying53, rfl, rfl, rfl⟩, ⟨1, by kernel_rfl, by decide⟩⟩
instance : Bd Try.prog 53 (fun i : Nat => ([(0, 1), (1, 1), (2, 1)] : List (Nat × Nat))[i]?) (Value.cells (.agg #[.int .i64 0, .string ByteArray.empty, .bool false])) := bd_struct Try.underlying53 (by kernel_rfl) (by kernel_rfl)
instance : Sc Try.prog 54 := ⟨by kernel_rfl, ⟨_, Try.underlying54, rfl⟩⟩
instance : Sz Try.prog 54 1 := ⟨by kernel_rfl⟩
instance : By Try.prog 54 8 := ⟨by kernel_rfl⟩
instance : Zr Try.prog 54 (.nilFunc) := ⟨by kernel_rfl⟩
instance : Zc Try.prog 54 [.nilFunc] := ⟨⟨.nilFunc, by kernel_rfl, rfl⟩⟩
instance : Sc Try.prog 55 := ⟨by kernel_rfl, ⟨_, Try.underlying55, rfl⟩⟩
instance : Sz Try.prog 55 1 := ⟨by kernel_rfl⟩
instance : By Try.prog 55 8 := ⟨by kernel_rfl⟩
instance : Zr Try.prog 55 (.nilFunc) := ⟨by kernel_rfl⟩
instance : Zc Try.prog 55 [.nilFunc] := ⟨⟨.nilFunc, by kernel_rfl, rfl⟩⟩
instance : Sc Try.prog 56 := ⟨by kernel_rfl, ⟨_, Try.underlying56, rfl⟩⟩
instance : Sz Try.prog 56 1 := ⟨by kernel_rfl⟩
instance : By Try.prog 56 8 := ⟨by kernel_rfl⟩
instance : Zr Try.prog 56 (.nilFunc) := ⟨by kernel_rfl⟩
instance : Zc Try.prog 56 [.nilFunc] := ⟨⟨.nilFunc, by kernel_rfl, rfl⟩⟩
instance : Sc Try.prog 57 := ⟨by kernel_rfl, ⟨_, Try.underlying57, rfl⟩⟩
instance : Sz Try.prog 57 1 := ⟨by kernel_rfl⟩
instance : By Try.prog 57 8 := ⟨by kernel_rfl⟩
instance : Zr Try.prog 57 (.nilFunc) := ⟨by kernel_rfl⟩
instance : Zc Try.prog 57 [.nilFunc] := ⟨⟨.nilFunc, by kernel_rfl, rfl⟩⟩
instance : Sc Try.prog 58 := ⟨by kernel_rfl, ⟨_, Try.underlying58, rfl⟩⟩
instance : Sz Try.prog 58 1 := ⟨by kernel_rfl⟩
instance : By Try.prog 58 24 := ⟨by kernel_rfl⟩
instance : Zr Try.prog 58 (.slice none 0 0) := ⟨by kernel_rfl⟩
instance : Zc Try.prog 58 [.slice none 0 0] := ⟨⟨.slice none 0 0, by kernel_rfl, rfl⟩⟩
instance : Sli Try.prog 58 4 := ⟨Try.underlying58⟩
instance : Sc Try.prog 59 := ⟨by kernel_rfl, ⟨_, Try.underlying59, rfl⟩⟩
instance : Sz Try.prog 59 1 := ⟨by kernel_rfl⟩
instance : By Try.prog 59 8 := ⟨by kernel_rfl⟩
instance : Zr Try.prog 59 (.nilFunc) := ⟨by kernel_rfl⟩
instance : Zc Try.prog 59 [.nilFunc] := ⟨⟨.nilFunc, by kernel_rfl, rfl⟩⟩
instance : Sc Try.prog 60 := ⟨by kernel_rfl, ⟨_, Try.underlying60, rfl⟩⟩
instance : Sz Try.prog 60 1 := ⟨by kernel_rfl⟩
instance : By Try.prog 60 8 := ⟨by kernel_rfl⟩
instance : Zr Try.prog 60 (.nilFunc) := ⟨by kernel_rfl⟩
instance : Zc Try.prog 60 [.nilFunc] := ⟨⟨.nilFunc, by kernel_rfl, rfl⟩⟩
instance : Ag Try.prog 61 2 := ⟨by kernel_rfl, ⟨_, Try.underlying61, rfl⟩⟩
instance : Sz Try.prog 61 2 := ⟨by kernel_rfl⟩
instance : By Try.prog 61 16 := ⟨by kernel_rfl⟩
instance : Zr Try.prog 61 (.agg #[.bool false, .int .i64 0]) := ⟨by kernel_rfl⟩
instance : Zc Try.prog 61 [.bool false, .int .i64 0] := ⟨⟨.agg #[.bool false, .int .i64 0], by kernel_rfl, rfl⟩⟩
instance : Fi Try.prog 61 0 0 4 := ⟨⟨_, _, Try.underlying61, rfl, rfl, rfl⟩, ⟨1, by kernel_rfl, by decide⟩⟩
instance : Fi Try.prog 61 1 1 3 := ⟨⟨_, _, Try.underlying61, rfl, rfl, rfl⟩, ⟨1, by kernel_rfl, by decide⟩⟩
instance : Bd Try.prog 61 (fun i : Nat => ([(0, 1), (1, 1)] : List (Nat × Nat))[i]?) (Value.cells (.agg #[.bool false, .int .i64 0])) := bd_struct Try.underlying61 (by kernel_rfl) (by kernel_rfl)
instance : Ag Try.prog 62 2 := ⟨by kernel_rfl, ⟨_, Try.underlying62, rfl⟩⟩
instance : Sz Try.prog 62 2 := ⟨by kernel_rfl⟩
instance : By Try.prog 62 16 := ⟨by kernel_rfl⟩
instance : Zr Try.prog 62 (.agg #[.bool false, .int .i64 0]) := ⟨by kernel_rfl⟩
instance : Zc Try.prog 62 [.bool false, .int .i64 0] := ⟨⟨.agg #[.bool false, .int .i64 0], by kernel_rfl, rfl⟩⟩
instance : Fi Try.prog 62 0 0 4 := ⟨⟨_, _, Try.underlying62, rfl, rfl, rfl⟩, ⟨1, by kernel_rfl, by decide⟩⟩
instance : Fi Try.prog 62 1 1 3 := ⟨⟨_, _, Try.underlying62, rfl, rfl, rfl⟩, ⟨1, by kernel_rfl, by decide⟩⟩
instance : Bd Try.prog 62 (fun i : Nat => ([(0, 1), (1, 1)] : List (Nat × Nat))[i]?) (Value.cells (.agg #[.bool false, .int .i64 0])) := bd_struct Try.underlying62 (by kernel_rfl) (by kernel_rfl)
instance : Sc Try.prog 63 := ⟨by kernel_rfl, ⟨_, Try.underlying63, rfl⟩⟩
instance : Sz Try.prog 63 1 := ⟨by kernel_rfl⟩
instance : By Try.prog 63 24 := ⟨by kernel_rfl⟩
instance : Zr Try.prog 63 (.slice none 0 0) := ⟨by kernel_rfl⟩
instance : Zc Try.prog 63 [.slice none 0 0] := ⟨⟨.slice none 0 0, by kernel_rfl, rfl⟩⟩
instance : Sli Try.prog 63 69 := ⟨Try.underlying63⟩
instance : Ag Try.prog 64 5 := ⟨by kernel_rfl, ⟨_, Try.underlying64, rfl⟩⟩
instance : Sz Try.prog 64 5 := ⟨by kernel_rfl⟩
instance : By Try.prog 64 88 := ⟨by kernel_rfl⟩
instance : Zr Try.prog 64 (.agg #[.bool false, .int .i64 0, .slice none 0 0, .slice none 0 0, .slice none 0 0]) := ⟨by kernel_rfl⟩
instance : Zc Try.prog 64 [.bool false, .int .i64 0, .slice none 0 0, .slice none 0 0, .slice none 0 0] := ⟨⟨.agg #[.bool false, .int .i64 0, .slice none 0 0, .slice none 0 0, .slice none 0 0], by kernel_rfl, rfl⟩⟩
instance : Fi Try.prog 64 0 0 62 := ⟨⟨_, _, Try.underlying64, rfl, rfl, rfl⟩, ⟨2, by kernel_rfl, by decide⟩⟩
instance : Fi Try.prog 64 1 2 40 := ⟨⟨_, _, Try.underlying64, rfl, rfl, rfl⟩, ⟨1, by kernel_rfl, by decide⟩⟩
instance : Fi Try.prog 64 2 3 40 := ⟨⟨_, _, Try.underlying64, rfl, rfl, rfl⟩, ⟨1, by kernel_rfl, by decide⟩⟩
instance : Fi Try.prog 64 3 4 63 := ⟨⟨_, _, Try.underlying64, rfl, rfl, rfl⟩, ⟨1, by kernel_rfl, by decide⟩⟩
instance : Bd Try.prog 64 (fun i : Nat => ([(0, 2), (2, 1), (3, 1), (4, 1)] : List (Nat × Nat))[i]?) (Value.cells (.agg #[.bool false, .int .i64 0, .slice none 0 0, .slice none 0 0, .slice none 0 0])) := bd_struct Try.underlying64 (by kernel_rfl) (by kernel_rfl)
instance : Ag Try.prog 65 5 := ⟨by kernel_rfl, ⟨_, Try.underlying65, rfl⟩⟩
instance : Sz Try.prog 65 5 := ⟨by kernel_rfl⟩
instance : By Try.prog 65 88 := ⟨by kernel_rfl⟩
instance : Zr Try.prog 65 (.agg #[.bool false, .int .i64 0, .slice none 0 0, .slice none 0 0, .slice none 0 0]) := ⟨by kernel_rfl⟩
instance : Zc Try.prog 65 [.bool false, .int .i64 0, .slice none 0 0, .slice none 0 0, .slice none 0 0] := ⟨⟨.agg #[.bool false, .int .i64 0, .slice none 0 0, .slice none 0 0, .slice none 0 0], by kernel_rfl, rfl⟩⟩
instance : Fi Try.prog 65 0 0 62 := ⟨⟨_, _, Try.underlying65, rfl, rfl, rfl⟩, ⟨2, by kernel_rfl, by decide⟩⟩
instance : Fi Try.prog 65 1 2 40 := ⟨⟨_, _, Try.underlying65, rfl, rfl, rfl⟩, ⟨1, by kernel_rfl, by decide⟩⟩
instance : Fi Try.prog 65 2 3 40 := ⟨⟨_, _, Try.underlying65, rfl, rfl, rfl⟩, ⟨1, by kernel_rfl, by decide⟩⟩
instance : Fi Try.prog 65 3 4 63 := ⟨⟨_, _, Try.underlying65, rfl, rfl, rfl⟩, ⟨1, by kernel_rfl, by decide⟩⟩
instance : Bd Try.prog 65 (fun i : Nat => ([(0, 2), (2, 1), (3, 1), (4, 1)] : List (Nat × Nat))[i]?) (Value.cells (.agg #[.bool false, .int .i64 0, .slice none 0 0, .slice none 0 0, .slice none 0 0])) := bd_struct Try.underlying65 (by kernel_rfl) (by kernel_rfl)
instance : Sc Try.prog 66 := ⟨by kernel_rfl, ⟨_, Try.underlying66, rfl⟩⟩
instance : Sz Try.prog 66 1 := ⟨by kernel_rfl⟩
instance : By Try.prog 66 8 := ⟨by kernel_rfl⟩
instance : Zr Try.prog 66 (.nilFunc) := ⟨by kernel_rfl⟩
instance : Zc Try.prog 66 [.nilFunc] := ⟨⟨.nilFunc, by kernel_rfl, rfl⟩⟩
instance : Sc Try.prog 67 := ⟨by kernel_rfl, ⟨_, Try.underlying67, rfl⟩⟩
instance : Sz Try.prog 67 1 := ⟨by kernel_rfl⟩
instance : By Try.prog 67 8 := ⟨by kernel_rfl⟩
instance : Zr Try.prog 67 (.nilFunc) := ⟨by kernel_rfl⟩
instance : Zc Try.prog 67 [.nilFunc] := ⟨⟨.nilFunc, by kernel_rfl, rfl⟩⟩
instance : Ag Try.prog 68 2 := ⟨by kernel_rfl, ⟨_, Try.underlying68, rfl⟩⟩
instance : Sz Try.prog 68 2 := ⟨by kernel_rfl⟩
instance : By Try.prog 68 24 := ⟨by kernel_rfl⟩
instance : Zr Try.prog 68 (.agg #[.int .i64 0, .string ByteArray.empty]) := ⟨by kernel_rfl⟩
instance : Zc Try.prog 68 [.int .i64 0, .string ByteArray.empty] := ⟨⟨.agg #[.int .i64 0, .string ByteArray.empty], by kernel_rfl, rfl⟩⟩
instance : Fi Try.prog 68 0 0 3 := ⟨⟨_, _, Try.underlying68, rfl, rfl, rfl⟩, ⟨1, by kernel_rfl, by decide⟩⟩
instance : Fi Try.prog 68 1 1 9 := ⟨⟨_, _, Try.underlying68, rfl, rfl, rfl⟩, ⟨1, by kernel_rfl, by decide⟩⟩
instance : Bd Try.prog 68 (fun i : Nat => ([(0, 1), (1, 1)] : List (Nat × Nat))[i]?) (Value.cells (.agg #[.int .i64 0, .string ByteArray.empty])) := bd_struct Try.underlying68 (by kernel_rfl) (by kernel_rfl)
instance : Ag Try.prog 69 2 := ⟨by kernel_rfl, ⟨_, Try.underlying69, rfl⟩⟩
instance : Sz Try.prog 69 2 := ⟨by kernel_rfl⟩
instance : By Try.prog 69 24 := ⟨by kernel_rfl⟩
instance : Zr Try.prog 69 (.agg #[.int .i64 0, .string ByteArray.empty]) := ⟨by kernel_rfl⟩
instance : Zc Try.prog 69 [.int .i64 0, .string ByteArray.empty] := ⟨⟨.agg #[.int .i64 0, .string ByteArray.empty], by kernel_rfl, rfl⟩⟩
instance : Fi Try.prog 69 0 0 3 := ⟨⟨_, _, Try.underlying69, rfl, rfl, rfl⟩, ⟨1, by kernel_rfl, by decide⟩⟩
instance : Fi Try.prog 69 1 1 9 := ⟨⟨_, _, Try.underlying69, rfl, rfl, rfl⟩, ⟨1, by kernel_rfl, by decide⟩⟩
instance : Bd Try.prog 69 (fun i : Nat => ([(0, 1), (1, 1)] : List (Nat × Nat))[i]?) (Value.cells (.agg #[.int .i64 0, .string ByteArray.empty])) := bd_struct Try.underlying69 (by kernel_rfl) (by kernel_rfl)
instance : Sc Try.prog 70 := ⟨by kernel_rfl, ⟨_, Try.underlying70, rfl⟩⟩
instance : Sz Try.prog 70 1 := ⟨by kernel_rfl⟩
instance : By Try.prog 70 8 := ⟨by kernel_rfl⟩
instance : Zr Try.prog 70 (.nilFunc) := ⟨by kernel_rfl⟩
instance : Zc Try.prog 70 [.nilFunc] := ⟨⟨.nilFunc, by kernel_rfl, rfl⟩⟩
instance : Sc Try.prog 71 := ⟨by kernel_rfl, ⟨_, Try.underlying71, rfl⟩⟩
instance : Sz Try.prog 71 1 := ⟨by kernel_rfl⟩
instance : By Try.prog 71 8 := ⟨by kernel_rfl⟩
instance : Zr Try.prog 71 (.nilFunc) := ⟨by kernel_rfl⟩
instance : Zc Try.prog 71 [.nilFunc] := ⟨⟨.nilFunc, by kernel_rfl, rfl⟩⟩
instance : Sc Try.prog 72 := ⟨by kernel_rfl, ⟨_, Try.underlying72, rfl⟩⟩
instance : Sz Try.prog 72 1 := ⟨by kernel_rfl⟩
instance : By Try.prog 72 8 := ⟨by kernel_rfl⟩
instance : Zr Try.prog 72 (.nilFunc) := ⟨by kernel_rfl⟩
instance : Zc Try.prog 72 [.nilFunc] := ⟨⟨.nilFunc, by kernel_rfl, rfl⟩⟩
instance : Sc Try.prog 73 := ⟨by kernel_rfl, ⟨_, Try.underlying73, rfl⟩⟩
instance : Sz Try.prog 73 1 := ⟨by kernel_rfl⟩
instance : By Try.prog 73 8 := ⟨by kernel_rfl⟩
instance : Zr Try.prog 73 (.nilFunc) := ⟨by kernel_rfl⟩
instance : Zc Try.prog 73 [.nilFunc] := ⟨⟨.nilFunc, by kernel_rfl, rfl⟩⟩
instance : Sc Try.prog 74 := ⟨by kernel_rfl, ⟨_, Try.underlying74, rfl⟩⟩
instance : Sz Try.prog 74 1 := ⟨by kernel_rfl⟩
instance : By Try.prog 74 8 := ⟨by kernel_rfl⟩
instance : Zr Try.prog 74 (.nilFunc) := ⟨by kernel_rfl⟩
instance : Zc Try.prog 74 [.nilFunc] := ⟨⟨.nilFunc, by kernel_rfl, rfl⟩⟩
instance : Sc Try.prog 75 := ⟨by kernel_rfl, ⟨_, Try.underlying75, rfl⟩⟩
instance : Sz Try.prog 75 1 := ⟨by kernel_rfl⟩
instance : By Try.prog 75 8 := ⟨by kernel_rfl⟩
instance : Zr Try.prog 75 (.nilFunc) := ⟨by kernel_rfl⟩
instance : Zc Try.prog 75 [.nilFunc] := ⟨⟨.nilFunc, by kernel_rfl, rfl⟩⟩
instance : Sc Try.prog 76 := ⟨by kernel_rfl, ⟨_, Try.underlying76, rfl⟩⟩
instance : Sz Try.prog 76 1 := ⟨by kernel_rfl⟩
instance : By Try.prog 76 8 := ⟨by kernel_rfl⟩
instance : Zr Try.prog 76 (.nilFunc) := ⟨by kernel_rfl⟩
instance : Zc Try.prog 76 [.nilFunc] := ⟨⟨.nilFunc, by kernel_rfl, rfl⟩⟩
instance : Sc Try.prog 77 := ⟨by kernel_rfl, ⟨_, Try.underlying77, rfl⟩⟩
instance : Sz Try.prog 77 1 := ⟨by kernel_rfl⟩
instance : By Try.prog 77 8 := ⟨by kernel_rfl⟩
instance : Zr Try.prog 77 (.nilFunc) := ⟨by kernel_rfl⟩
instance : Zc Try.prog 77 [.nilFunc] := ⟨⟨.nilFunc, by kernel_rfl, rfl⟩⟩
instance : Sc Try.prog 78 := ⟨by kernel_rfl, ⟨_, Try.underlying78, rfl⟩⟩
instance : Sz Try.prog 78 1 := ⟨by kernel_rfl⟩
instance : By Try.prog 78 8 := ⟨by kernel_rfl⟩
instance : Zr Try.prog 78 (.nilFunc) := ⟨by kernel_rfl⟩
instance : Zc Try.prog 78 [.nilFunc] := ⟨⟨.nilFunc, by kernel_rfl, rfl⟩⟩
instance : Ag Try.prog 79 2 := ⟨by kernel_rfl, ⟨_, Try.underlying79, rfl⟩⟩
instance : Sz Try.prog 79 2 := ⟨by kernel_rfl⟩
instance : By Try.prog 79 24 := ⟨by kernel_rfl⟩
instance : Zr Try.prog 79 (.agg #[.int .i64 0, .string ByteArray.empty]) := ⟨by kernel_rfl⟩
instance : Zc Try.prog 79 [.int .i64 0, .string ByteArray.empty] := ⟨⟨.agg #[.int .i64 0, .string ByteArray.empty], by kernel_rfl, rfl⟩⟩
instance : Fi Try.prog 79 0 0 3 := ⟨⟨_, _, Try.underlying79, rfl, rfl, rfl⟩, ⟨1, by kernel_rfl, by decide⟩⟩
instance : Fi Try.prog 79 1 1 9 := ⟨⟨_, _, Try.underlying79, rfl, rfl, rfl⟩, ⟨1, by kernel_rfl, by decide⟩⟩
instance : Bd Try.prog 79 (fun i : Nat => ([(0, 1), (1, 1)] : List (Nat × Nat))[i]?) (Value.cells (.agg #[.int .i64 0, .string ByteArray.empty])) := bd_struct Try.underlying79 (by kernel_rfl) (by kernel_rfl)
instance : Ag Try.prog 80 2 := ⟨by kernel_rfl, ⟨_, Try.underlying80, rfl⟩⟩
instance : Sz Try.prog 80 2 := ⟨by kernel_rfl⟩
instance : By Try.prog 80 24 := ⟨by kernel_rfl⟩
instance : Zr Try.prog 80 (.agg #[.int .i64 0, .string ByteArray.empty]) := ⟨by kernel_rfl⟩
instance : Zc Try.prog 80 [.int .i64 0, .string ByteArray.empty] := ⟨⟨.agg #[.int .i64 0, .string ByteArray.empty], by kernel_rfl, rfl⟩⟩
instance : Fi Try.prog 80 0 0 3 := ⟨⟨_, _, Try.underlying80, rfl, rfl, rfl⟩, ⟨1, by kernel_rfl, by decide⟩⟩
instance : Fi Try.prog 80 1 1 9 := ⟨⟨_, _, Try.underlying80, rfl, rfl, rfl⟩, ⟨1, by kernel_rfl, by decide⟩⟩
instance : Bd Try.prog 80 (fun i : Nat => ([(0, 1), (1, 1)] : List (Nat × Nat))[i]?) (Value.cells (.agg #[.int .i64 0, .string ByteArray.empty])) := bd_struct Try.underlying80 (by kernel_rfl) (by kernel_rfl)
instance : Sc Try.prog 81 := ⟨by kernel_rfl, ⟨_, Try.underlying81, rfl⟩⟩
instance : Sz Try.prog 81 1 := ⟨by kernel_rfl⟩
instance : By Try.prog 81 8 := ⟨by kernel_rfl⟩
instance : Zr Try.prog 81 (.nilFunc) := ⟨by kernel_rfl⟩
instance : Zc Try.prog 81 [.nilFunc] := ⟨⟨.nilFunc, by kernel_rfl, rfl⟩⟩
instance : Sc Try.prog 82 := ⟨by kernel_rfl, ⟨_, Try.underlying82, rfl⟩⟩
instance : Sz Try.prog 82 1 := ⟨by kernel_rfl⟩
instance : By Try.prog 82 8 := ⟨by kernel_rfl⟩
instance : Zr Try.prog 82 (.pointer none) := ⟨by kernel_rfl⟩
instance : Zc Try.prog 82 [.pointer none] := ⟨⟨.pointer none, by kernel_rfl, rfl⟩⟩
instance : Sc Try.prog 83 := ⟨by kernel_rfl, ⟨_, Try.underlying83, rfl⟩⟩
instance : Sz Try.prog 83 1 := ⟨by kernel_rfl⟩
instance : By Try.prog 83 8 := ⟨by kernel_rfl⟩
instance : Zr Try.prog 83 (.nilFunc) := ⟨by kernel_rfl⟩
instance : Zc Try.prog 83 [.nilFunc] := ⟨⟨.nilFunc, by kernel_rfl, rfl⟩⟩
instance : Sc Try.prog 84 := ⟨by kernel_rfl, ⟨_, Try.underlying84, rfl⟩⟩
instance : Sz Try.prog 84 1 := ⟨by kernel_rfl⟩
instance : By Try.prog 84 8 := ⟨by kernel_rfl⟩
instance : Zr Try.prog 84 (.nilFunc) := ⟨by kernel_rfl⟩
instance : Zc Try.prog 84 [.nilFunc] := ⟨⟨.nilFunc, by kernel_rfl, rfl⟩⟩
instance : Sc Try.prog 85 := ⟨by kernel_rfl, ⟨_, Try.underlying85, rfl⟩⟩
instance : Sz Try.prog 85 1 := ⟨by kernel_rfl⟩
instance : By Try.prog 85 8 := ⟨by kernel_rfl⟩
instance : Zr Try.prog 85 (.nilFunc) := ⟨by kernel_rfl⟩
instance : Zc Try.prog 85 [.nilFunc] := ⟨⟨.nilFunc, by kernel_rfl, rfl⟩⟩
instance : Sc Try.prog 86 := ⟨by kernel_rfl, ⟨_, Try.underlying86, rfl⟩⟩
instance : Sz Try.prog 86 1 := ⟨by kernel_rfl⟩
instance : By Try.prog 86 8 := ⟨by kernel_rfl⟩
instance : Zr Try.prog 86 (.nilFunc) := ⟨by kernel_rfl⟩
instance : Zc Try.prog 86 [.nilFunc] := ⟨⟨.nilFunc, by kernel_rfl, rfl⟩⟩
instance : Sc Try.prog 87 := ⟨by kernel_rfl, ⟨_, Try.underlying87, rfl⟩⟩
instance : Sz Try.prog 87 1 := ⟨by kernel_rfl⟩
instance : By Try.prog 87 8 := ⟨by kernel_rfl⟩
instance : Zr Try.prog 87 (.nilFunc) := ⟨by kernel_rfl⟩
instance : Zc Try.prog 87 [.nilFunc] := ⟨⟨.nilFunc, by kernel_rfl, rfl⟩⟩
instance : Sc Try.prog 88 := ⟨by kernel_rfl, ⟨_, Try.underlying88, rfl⟩⟩
instance : Sz Try.prog 88 1 := ⟨by kernel_rfl⟩
instance : By Try.prog 88 8 := ⟨by kernel_rfl⟩
instance : Zr Try.prog 88 (.int .u64 0) := ⟨by kernel_rfl⟩
instance : Zc Try.prog 88 [.int .u64 0] := ⟨⟨.int .u64 0, by kernel_rfl, rfl⟩⟩
instance : Ity Try.prog 88 .u64 := ⟨Try.underlying88⟩
instance : Sc Try.prog 89 := ⟨by kernel_rfl, ⟨_, Try.underlying89, rfl⟩⟩
instance : Sz Try.prog 89 1 := ⟨by kernel_rfl⟩
instance : By Try.prog 89 8 := ⟨by kernel_rfl⟩
instance : Zr Try.prog 89 (.nilFunc) := ⟨by kernel_rfl⟩
instance : Zc Try.prog 89 [.nilFunc] := ⟨⟨.nilFunc, by kernel_rfl, rfl⟩⟩
instance : Sc Try.prog 90 := ⟨by kernel_rfl, ⟨_, Try.underlying90, rfl⟩⟩
instance : Sz Try.prog 90 1 := ⟨by kernel_rfl⟩
instance : By Try.prog 90 8 := ⟨by kernel_rfl⟩
instance : Zr Try.prog 90 (.int .i64 0) := ⟨by kernel_rfl⟩
instance : Zc Try.prog 90 [.int .i64 0] := ⟨⟨.int .i64 0, by kernel_rfl, rfl⟩⟩
instance : Ity Try.prog 90 .i64 := ⟨Try.underlying90⟩
instance : Sc Try.prog 92 := ⟨by kernel_rfl, ⟨_, Try.underlying92, rfl⟩⟩
instance : Sz Try.prog 92 1 := ⟨by kernel_rfl⟩
instance : By Try.prog 92 8 := ⟨by kernel_rfl⟩
instance : Zr Try.prog 92 (.nilFunc) := ⟨by kernel_rfl⟩
instance : Zc Try.prog 92 [.nilFunc] := ⟨⟨.nilFunc, by kernel_rfl, rfl⟩⟩
instance : Sc Try.prog 93 := ⟨by kernel_rfl, ⟨_, Try.underlying93, rfl⟩⟩
instance : Sz Try.prog 93 1 := ⟨by kernel_rfl⟩
instance : By Try.prog 93 8 := ⟨by kernel_rfl⟩
instance : Zr Try.prog 93 (.nilFunc) := ⟨by kernel_rfl⟩
instance : Zc Try.prog 93 [.nilFunc] := ⟨⟨.nilFunc, by kernel_rfl, rfl⟩⟩
instance : Sc Try.prog 94 := ⟨by kernel_rfl, ⟨_, Try.underlying94, rfl⟩⟩
instance : Sz Try.prog 94 1 := ⟨by kernel_rfl⟩
instance : By Try.prog 94 8 := ⟨by kernel_rfl⟩
instance : Zr Try.prog 94 (.nilFunc) := ⟨by kernel_rfl⟩
instance : Zc Try.prog 94 [.nilFunc] := ⟨⟨.nilFunc, by kernel_rfl, rfl⟩⟩
instance : Sc Try.prog 96 := ⟨by kernel_rfl, ⟨_, Try.underlying96, rfl⟩⟩
instance : Sz Try.prog 96 1 := ⟨by kernel_rfl⟩
instance : By Try.prog 96 8 := ⟨by kernel_rfl⟩
instance : Zr Try.prog 96 (.nilFunc) := ⟨by kernel_rfl⟩
instance : Zc Try.prog 96 [.nilFunc] := ⟨⟨.nilFunc, by kernel_rfl, rfl⟩⟩
instance : Sc Try.prog 97 := ⟨by kernel_rfl, ⟨_, Try.underlying97, rfl⟩⟩
instance : Sz Try.prog 97 1 := ⟨by kernel_rfl⟩
instance : By Try.prog 97 8 := ⟨by kernel_rfl⟩
instance : Zr Try.prog 97 (.nilFunc) := ⟨by kernel_rfl⟩
instance : Zc Try.prog 97 [.nilFunc] := ⟨⟨.nilFunc, by kernel_rfl, rfl⟩⟩
instance : Sc Try.prog 98 := ⟨by kernel_rfl, ⟨_, Try.underlying98, rfl⟩⟩
instance : Sz Try.prog 98 1 := ⟨by kernel_rfl⟩
instance : By Try.prog 98 4 := ⟨by kernel_rfl⟩
instance : Zr Try.prog 98 (.int .u32 0) := ⟨by kernel_rfl⟩
instance : Zc Try.prog 98 [.int .u32 0] := ⟨⟨.int .u32 0, by kernel_rfl, rfl⟩⟩
instance : Ity Try.prog 98 .u32 := ⟨Try.underlying98⟩
instance : Sc Try.prog 99 := ⟨by kernel_rfl, ⟨_, Try.underlying99, rfl⟩⟩
instance : Sz Try.prog 99 1 := ⟨by kernel_rfl⟩
instance : By Try.prog 99 8 := ⟨by kernel_rfl⟩
instance : Zr Try.prog 99 (.nilFunc) := ⟨by kernel_rfl⟩
instance : Zc Try.prog 99 [.nilFunc] := ⟨⟨.nilFunc, by kernel_rfl, rfl⟩⟩
instance : Sc Try.prog 100 := ⟨by kernel_rfl, ⟨_, Try.underlying100, rfl⟩⟩
instance : Sz Try.prog 100 1 := ⟨by kernel_rfl⟩
instance : By Try.prog 100 8 := ⟨by kernel_rfl⟩
instance : Zr Try.prog 100 (.int .u64 0) := ⟨by kernel_rfl⟩
instance : Zc Try.prog 100 [.int .u64 0] := ⟨⟨.int .u64 0, by kernel_rfl, rfl⟩⟩
instance : Ity Try.prog 100 .u64 := ⟨Try.underlying100⟩
instance : Sc Try.prog 101 := ⟨by kernel_rfl, ⟨_, Try.underlying101, rfl⟩⟩
instance : Sz Try.prog 101 1 := ⟨by kernel_rfl⟩
instance : By Try.prog 101 8 := ⟨by kernel_rfl⟩
instance : Zr Try.prog 101 (.int .u64 0) := ⟨by kernel_rfl⟩
instance : Zc Try.prog 101 [.int .u64 0] := ⟨⟨.int .u64 0, by kernel_rfl, rfl⟩⟩
instance : Ity Try.prog 101 .u64 := ⟨Try.underlying101⟩
instance : Sc Try.prog 102 := ⟨by kernel_rfl, ⟨_, Try.underlying102, rfl⟩⟩
instance : Sz Try.prog 102 1 := ⟨by kernel_rfl⟩
instance : By Try.prog 102 8 := ⟨by kernel_rfl⟩
instance : Zr Try.prog 102 (.nilFunc) := ⟨by kernel_rfl⟩
instance : Zc Try.prog 102 [.nilFunc] := ⟨⟨.nilFunc, by kernel_rfl, rfl⟩⟩
instance : Sc Try.prog 103 := ⟨by kernel_rfl, ⟨_, Try.underlying103, rfl⟩⟩
instance : Sz Try.prog 103 1 := ⟨by kernel_rfl⟩
instance : By Try.prog 103 8 := ⟨by kernel_rfl⟩
instance : Zr Try.prog 103 (.nilFunc) := ⟨by kernel_rfl⟩
instance : Zc Try.prog 103 [.nilFunc] := ⟨⟨.nilFunc, by kernel_rfl, rfl⟩⟩
instance : Sc Try.prog 104 := ⟨by kernel_rfl, ⟨_, Try.underlying104, rfl⟩⟩
instance : Sz Try.prog 104 1 := ⟨by kernel_rfl⟩
instance : By Try.prog 104 8 := ⟨by kernel_rfl⟩
instance : Zr Try.prog 104 (.nilFunc) := ⟨by kernel_rfl⟩
instance : Zc Try.prog 104 [.nilFunc] := ⟨⟨.nilFunc, by kernel_rfl, rfl⟩⟩
instance : Sc Try.prog 105 := ⟨by kernel_rfl, ⟨_, Try.underlying105, rfl⟩⟩
instance : Sz Try.prog 105 1 := ⟨by kernel_rfl⟩
instance : By Try.prog 105 8 := ⟨by kernel_rfl⟩
instance : Zr Try.prog 105 (.pointer none) := ⟨by kernel_rfl⟩
instance : Zc Try.prog 105 [.pointer none] := ⟨⟨.pointer none, by kernel_rfl, rfl⟩⟩
instance : Sc Try.prog 106 := ⟨by kernel_rfl, ⟨_, Try.underlying106, rfl⟩⟩
instance : Sz Try.prog 106 1 := ⟨by kernel_rfl⟩
instance : By Try.prog 106 8 := ⟨by kernel_rfl⟩
instance : Zr Try.prog 106 (.nilFunc) := ⟨by kernel_rfl⟩
instance : Zc Try.prog 106 [.nilFunc] := ⟨⟨.nilFunc, by kernel_rfl, rfl⟩⟩
instance : Sc Try.prog 107 := ⟨by kernel_rfl, ⟨_, Try.underlying107, rfl⟩⟩
instance : Sz Try.prog 107 1 := ⟨by kernel_rfl⟩
instance : By Try.prog 107 8 := ⟨by kernel_rfl⟩
instance : Zr Try.prog 107 (.pointer none) := ⟨by kernel_rfl⟩
instance : Zc Try.prog 107 [.pointer none] := ⟨⟨.pointer none, by kernel_rfl, rfl⟩⟩
instance : Sc Try.prog 109 := ⟨by kernel_rfl, ⟨_, Try.underlying109, rfl⟩⟩
instance : Sz Try.prog 109 1 := ⟨by kernel_rfl⟩
instance : By Try.prog 109 8 := ⟨by kernel_rfl⟩
instance : Zr Try.prog 109 (.nilFunc) := ⟨by kernel_rfl⟩
instance : Zc Try.prog 109 [.nilFunc] := ⟨⟨.nilFunc, by kernel_rfl, rfl⟩⟩
instance : Sc Try.prog 110 := ⟨by kernel_rfl, ⟨_, Try.underlying110, rfl⟩⟩
instance : Sz Try.prog 110 1 := ⟨by kernel_rfl⟩
instance : By Try.prog 110 8 := ⟨by kernel_rfl⟩
instance : Zr Try.prog 110 (.nilFunc) := ⟨by kernel_rfl⟩
instance : Zc Try.prog 110 [.nilFunc] := ⟨⟨.nilFunc, by kernel_rfl, rfl⟩⟩
instance : Ag Try.prog 111 4 := ⟨by kernel_rfl, ⟨_, Try.underlying111, rfl⟩⟩
instance : Sz Try.prog 111 4 := ⟨by kernel_rfl⟩
instance : By Try.prog 111 40 := ⟨by kernel_rfl⟩
instance : Zr Try.prog 111 (.agg #[.pointer none, .pointer none, .pointer none, .string ByteArray.empty]) := ⟨by kernel_rfl⟩
instance : Zc Try.prog 111 [.pointer none, .pointer none, .pointer none, .string ByteArray.empty] := ⟨⟨.agg #[.pointer none, .pointer none, .pointer none, .string ByteArray.empty], by kernel_rfl, rfl⟩⟩
instance : Fi Try.prog 111 0 0 17 := ⟨⟨_, _, Try.underlying111, rfl, rfl, rfl⟩, ⟨1, by kernel_rfl, by decide⟩⟩
instance : Fi Try.prog 111 1 1 17 := ⟨⟨_, _, Try.underlying111, rfl, rfl, rfl⟩, ⟨1, by kernel_rfl, by decide⟩⟩
instance : Fi Try.prog 111 2 2 17 := ⟨⟨_, _, Try.underlying111, rfl, rfl, rfl⟩, ⟨1, by kernel_rfl, by decide⟩⟩
instance : Fi Try.prog 111 3 3 9 := ⟨⟨_, _, Try.underlying111, rfl, rfl, rfl⟩, ⟨1, by kernel_rfl, by decide⟩⟩
instance : Bd Try.prog 111 (fun i : Nat => ([(0, 1), (1, 1), (2, 1), (3, 1)] : List (Nat × Nat))[i]?) (Value.cells (.agg #[.pointer none, .pointer none, .pointer none, .string ByteArray.empty])) := bd_struct Try.underlying111 (by kernel_rfl) (by kernel_rfl)
instance : Ag Try.prog 112 4 := ⟨by kernel_rfl, ⟨_, Try.underlying112, rfl⟩⟩
instance : Sz Try.prog 112 4 := ⟨by kernel_rfl⟩
instance : By Try.prog 112 40 := ⟨by kernel_rfl⟩
instance : Zr Try.prog 112 (.agg #[.pointer none, .pointer none, .pointer none, .string ByteArray.empty]) := ⟨by kernel_rfl⟩
instance : Zc Try.prog 112 [.pointer none, .pointer none, .pointer none, .string ByteArray.empty] := ⟨⟨.agg #[.pointer none, .pointer none, .pointer none, .string ByteArray.empty], by kernel_rfl, rfl⟩⟩
instance : Fi Try.prog 112 0 0 17 := ⟨⟨_, _, Try.underlying112, rfl, rfl, rfl⟩, ⟨1, by kernel_rfl, by decide⟩⟩
instance : Fi Try.prog 112 1 1 17 := ⟨⟨_, _, Try.underlying112, rfl, rfl, rfl⟩, ⟨1, by kernel_rfl, by decide⟩⟩
instance : Fi Try.prog 112 2 2 17 := ⟨⟨_, _, Try.underlying112, rfl, rfl, rfl⟩, ⟨1, by kernel_rfl, by decide⟩⟩
instance : Fi Try.prog 112 3 3 9 := ⟨⟨_, _, Try.underlying112, rfl, rfl, rfl⟩, ⟨1, by kernel_rfl, by decide⟩⟩
instance : Bd Try.prog 112 (fun i : Nat => ([(0, 1), (1, 1), (2, 1), (3, 1)] : List (Nat × Nat))[i]?) (Value.cells (.agg #[.pointer none, .pointer none, .pointer none, .string ByteArray.empty])) := bd_struct Try.underlying112 (by kernel_rfl) (by kernel_rfl)
instance : Sz Try.prog 113 0 := ⟨by kernel_rfl⟩
instance : By Try.prog 113 0 := ⟨by kernel_rfl⟩
instance : Zr Try.prog 113 (.agg #[]) := ⟨by kernel_rfl⟩
instance : Zc Try.prog 113 [] := ⟨⟨.agg #[], by kernel_rfl, rfl⟩⟩
instance : Arr Try.prog 113 0 16 := ⟨Try.underlying113⟩
instance : Bd Try.prog 113 (fun i => some (i * 1, 1)) (Value.cells (.agg #[])) := bd_array Try.underlying113 (by kernel_rfl) (by kernel_rfl)
instance : Sz Try.prog 114 0 := ⟨by kernel_rfl⟩
instance : By Try.prog 114 0 := ⟨by kernel_rfl⟩
instance : Zr Try.prog 114 (.agg #[]) := ⟨by kernel_rfl⟩
instance : Zc Try.prog 114 [] := ⟨⟨.agg #[], by kernel_rfl, rfl⟩⟩
instance : Bd Try.prog 114 (fun i : Nat => ([(0, 0)] : List (Nat × Nat))[i]?) (Value.cells (.agg #[])) := bd_struct Try.underlying114 (by kernel_rfl) (by kernel_rfl)
instance : Sz Try.prog 115 0 := ⟨by kernel_rfl⟩
instance : By Try.prog 115 0 := ⟨by kernel_rfl⟩
instance : Zr Try.prog 115 (.agg #[]) := ⟨by kernel_rfl⟩
instance : Zc Try.prog 115 [] := ⟨⟨.agg #[], by kernel_rfl, rfl⟩⟩
instance : Bd Try.prog 115 (fun i : Nat => ([(0, 0)] : List (Nat × Nat))[i]?) (Value.cells (.agg #[])) := bd_struct Try.underlying115 (by kernel_rfl) (by kernel_rfl)
instance : Sc Try.prog 116 := ⟨by kernel_rfl, ⟨_, Try.underlying116, rfl⟩⟩
instance : Sz Try.prog 116 1 := ⟨by kernel_rfl⟩
instance : By Try.prog 116 1 := ⟨by kernel_rfl⟩
instance : Zr Try.prog 116 (.int .u8 0) := ⟨by kernel_rfl⟩
instance : Zc Try.prog 116 [.int .u8 0] := ⟨⟨.int .u8 0, by kernel_rfl, rfl⟩⟩
instance : Ity Try.prog 116 .u8 := ⟨Try.underlying116⟩
instance : Sc Try.prog 117 := ⟨by kernel_rfl, ⟨_, Try.underlying117, rfl⟩⟩
instance : Sz Try.prog 117 1 := ⟨by kernel_rfl⟩
instance : By Try.prog 117 1 := ⟨by kernel_rfl⟩
instance : Zr Try.prog 117 (.int .u8 0) := ⟨by kernel_rfl⟩
instance : Zc Try.prog 117 [.int .u8 0] := ⟨⟨.int .u8 0, by kernel_rfl, rfl⟩⟩
instance : Ity Try.prog 117 .u8 := ⟨Try.underlying117⟩
instance : Sc Try.prog 118 := ⟨by kernel_rfl, ⟨_, Try.underlying118, rfl⟩⟩
instance : Sz Try.prog 118 1 := ⟨by kernel_rfl⟩
instance : By Try.prog 118 8 := ⟨by kernel_rfl⟩
instance : Zr Try.prog 118 (.nilFunc) := ⟨by kernel_rfl⟩
instance : Zc Try.prog 118 [.nilFunc] := ⟨⟨.nilFunc, by kernel_rfl, rfl⟩⟩
instance : Sc Try.prog 119 := ⟨by kernel_rfl, ⟨_, Try.underlying119, rfl⟩⟩
instance : Sz Try.prog 119 1 := ⟨by kernel_rfl⟩
instance : By Try.prog 119 8 := ⟨by kernel_rfl⟩
instance : Zr Try.prog 119 (.pointer none) := ⟨by kernel_rfl⟩
instance : Zc Try.prog 119 [.pointer none] := ⟨⟨.pointer none, by kernel_rfl, rfl⟩⟩
instance : Sc Try.prog 120 := ⟨by kernel_rfl, ⟨_, Try.underlying120, rfl⟩⟩
instance : Sz Try.prog 120 1 := ⟨by kernel_rfl⟩
instance : By Try.prog 120 4 := ⟨by kernel_rfl⟩
instance : Zr Try.prog 120 (.int .i32 0) := ⟨by kernel_rfl⟩
instance : Zc Try.prog 120 [.int .i32 0] := ⟨⟨.int .i32 0, by kernel_rfl, rfl⟩⟩
instance : Ity Try.prog 120 .i32 := ⟨Try.underlying120⟩
instance : Sc Try.prog 121 := ⟨by kernel_rfl, ⟨_, Try.underlying121, rfl⟩⟩
instance : Sz Try.prog 121 1 := ⟨by kernel_rfl⟩
instance : By Try.prog 121 4 := ⟨by kernel_rfl⟩
instance : Zr Try.prog 121 (.int .i32 0) := ⟨by kernel_rfl⟩
instance : Zc Try.prog 121 [.int .i32 0] := ⟨⟨.int .i32 0, by kernel_rfl, rfl⟩⟩
instance : Ity Try.prog 121 .i32 := ⟨Try.underlying121⟩
instance : Ag Try.prog 122 11 := ⟨by kernel_rfl, ⟨_, Try.underlying122, rfl⟩⟩
instance : Sz Try.prog 122 11 := ⟨by kernel_rfl⟩
instance : By Try.prog 122 48 := ⟨by kernel_rfl⟩
instance : Zr Try.prog 122 (.agg #[.int .u64 0, .int .u64 0, .int .u32 0, .int .u8 0, .int .u8 0, .int .u8 0, .int .u8 0, .nilFunc, .pointer none, .int .i32 0, .int .i32 0]) := ⟨by kernel_rfl⟩
instance : Zc Try.prog 122 [.int .u64 0, .int .u64 0, .int .u32 0, .int .u8 0, .int .u8 0, .int .u8 0, .int .u8 0, .nilFunc, .pointer none, .int .i32 0, .int .i32 0] := ⟨⟨.agg #[.int .u64 0, .int .u64 0, .int .u32 0, .int .u8 0, .int .u8 0, .int .u8 0, .int .u8 0, .nilFunc, .pointer none, .int .i32 0, .int .i32 0], by kernel_rfl, rfl⟩⟩
instance : Fi Try.prog 122 0 0 12 := ⟨⟨_, _, Try.underlying122, rfl, rfl, rfl⟩, ⟨1, by kernel_rfl, by decide⟩⟩
instance : Fi Try.prog 122 1 1 12 := ⟨⟨_, _, Try.underlying122, rfl, rfl, rfl⟩, ⟨1, by kernel_rfl, by decide⟩⟩
instance : Fi Try.prog 122 2 2 98 := ⟨⟨_, _, Try.underlying122, rfl, rfl, rfl⟩, ⟨1, by kernel_rfl, by decide⟩⟩
instance : Fi Try.prog 122 3 3 116 := ⟨⟨_, _, Try.underlying122, rfl, rfl, rfl⟩, ⟨1, by kernel_rfl, by decide⟩⟩
instance : Fi Try.prog 122 4 4 5 := ⟨⟨_, _, Try.underlying122, rfl, rfl, rfl⟩, ⟨1, by kernel_rfl, by decide⟩⟩
instance : Fi Try.prog 122 5 5 5 := ⟨⟨_, _, Try.underlying122, rfl, rfl, rfl⟩, ⟨1, by kernel_rfl, by decide⟩⟩
instance : Fi Try.prog 122 6 6 117 := ⟨⟨_, _, Try.underlying122, rfl, rfl, rfl⟩, ⟨1, by kernel_rfl, by decide⟩⟩
instance : Fi Try.prog 122 7 7 118 := ⟨⟨_, _, Try.underlying122, rfl, rfl, rfl⟩, ⟨1, by kernel_rfl, by decide⟩⟩
instance : Fi Try.prog 122 8 8 119 := ⟨⟨_, _, Try.underlying122, rfl, rfl, rfl⟩, ⟨1, by kernel_rfl, by decide⟩⟩
instance : Fi Try.prog 122 9 9 120 := ⟨⟨_, _, Try.underlying122, rfl, rfl, rfl⟩, ⟨1, by kernel_rfl, by decide⟩⟩
instance : Fi Try.prog 122 10 10 121 := ⟨⟨_, _, Try.underlying122, rfl, rfl, rfl⟩, ⟨1, by kernel_rfl, by decide⟩⟩
instance : Bd Try.prog 122 (fun i : Nat => ([(0, 1), (1, 1), (2, 1), (3, 1), (4, 1), (5, 1), (6, 1), (7, 1), (8, 1), (9, 1), (10, 1)] : List (Nat × Nat))[i]?) (Value.cells (.agg #[.int .u64 0, .int .u64 0, .int .u32 0, .int .u8 0, .int .u8 0, .int .u8 0, .int .u8 0, .nilFunc, .pointer none, .int .i32 0, .int .i32 0])) := bd_struct Try.underlying122 (by kernel_rfl) (by kernel_rfl)
instance : Ag Try.prog 123 11 := ⟨by kernel_rfl, ⟨_, Try.underlying123, rfl⟩⟩
instance : Sz Try.prog 123 11 := ⟨by kernel_rfl⟩
instance : By Try.prog 123 48 := ⟨by kernel_rfl⟩
instance : Zr Try.prog 123 (.agg #[.int .u64 0, .int .u64 0, .int .u32 0, .int .u8 0, .int .u8 0, .int .u8 0, .int .u8 0, .nilFunc, .pointer none, .int .i32 0, .int .i32 0]) := ⟨by kernel_rfl⟩
instance : Zc Try.prog 123 [.int .u64 0, .int .u64 0, .int .u32 0, .int .u8 0, .int .u8 0, .int .u8 0, .int .u8 0, .nilFunc, .pointer none, .int .i32 0, .int .i32 0] := ⟨⟨.agg #[.int .u64 0, .int .u64 0, .int .u32 0, .int .u8 0, .int .u8 0, .int .u8 0, .int .u8 0, .nilFunc, .pointer none, .int .i32 0, .int .i32 0], by kernel_rfl, rfl⟩⟩
instance : Fi Try.prog 123 0 0 12 := ⟨⟨_, _, Try.underlying123, rfl, rfl, rfl⟩, ⟨1, by kernel_rfl, by decide⟩⟩
instance : Fi Try.prog 123 1 1 12 := ⟨⟨_, _, Try.underlying123, rfl, rfl, rfl⟩, ⟨1, by kernel_rfl, by decide⟩⟩
instance : Fi Try.prog 123 2 2 98 := ⟨⟨_, _, Try.underlying123, rfl, rfl, rfl⟩, ⟨1, by kernel_rfl, by decide⟩⟩
instance : Fi Try.prog 123 3 3 116 := ⟨⟨_, _, Try.underlying123, rfl, rfl, rfl⟩, ⟨1, by kernel_rfl, by decide⟩⟩
instance : Fi Try.prog 123 4 4 5 := ⟨⟨_, _, Try.underlying123, rfl, rfl, rfl⟩, ⟨1, by kernel_rfl, by decide⟩⟩
instance : Fi Try.prog 123 5 5 5 := ⟨⟨_, _, Try.underlying123, rfl, rfl, rfl⟩, ⟨1, by kernel_rfl, by decide⟩⟩
instance : Fi Try.prog 123 6 6 117 := ⟨⟨_, _, Try.underlying123, rfl, rfl, rfl⟩, ⟨1, by kernel_rfl, by decide⟩⟩
instance : Fi Try.prog 123 7 7 118 := ⟨⟨_, _, Try.underlying123, rfl, rfl, rfl⟩, ⟨1, by kernel_rfl, by decide⟩⟩
instance : Fi Try.prog 123 8 8 119 := ⟨⟨_, _, Try.underlying123, rfl, rfl, rfl⟩, ⟨1, by kernel_rfl, by decide⟩⟩
instance : Fi Try.prog 123 9 9 120 := ⟨⟨_, _, Try.underlying123, rfl, rfl, rfl⟩, ⟨1, by kernel_rfl, by decide⟩⟩
instance : Fi Try.prog 123 10 10 121 := ⟨⟨_, _, Try.underlying123, rfl, rfl, rfl⟩, ⟨1, by kernel_rfl, by decide⟩⟩
instance : Bd Try.prog 123 (fun i : Nat => ([(0, 1), (1, 1), (2, 1), (3, 1), (4, 1), (5, 1), (6, 1), (7, 1), (8, 1), (9, 1), (10, 1)] : List (Nat × Nat))[i]?) (Value.cells (.agg #[.int .u64 0, .int .u64 0, .int .u32 0, .int .u8 0, .int .u8 0, .int .u8 0, .int .u8 0, .nilFunc, .pointer none, .int .i32 0, .int .i32 0])) := bd_struct Try.underlying123 (by kernel_rfl) (by kernel_rfl)
instance : Mx Try.prog := ⟨by kernel_rfl⟩
instance : Fun Try.prog 3 := ⟨fun _ _ => by kernel_rfl⟩
instance : Fun Try.prog 4 := ⟨fun _ _ => by kernel_rfl⟩
instance : Fun Try.prog 5 := ⟨fun _ _ => by kernel_rfl⟩
instance : Fun Try.prog 6 := ⟨fun _ _ => by kernel_rfl⟩
instance : Fun Try.prog 7 := ⟨fun _ _ => by kernel_rfl⟩
instance : Fun Try.prog 8 := ⟨fun _ _ => by kernel_rfl⟩
instance : Fun Try.prog 9 := ⟨fun _ _ => by kernel_rfl⟩
instance : Fun Try.prog 10 := ⟨fun _ _ => by kernel_rfl⟩
instance : Fun Try.prog 11 := ⟨fun _ _ => by kernel_rfl⟩
instance : Fun Try.prog 12 := ⟨fun _ _ => by kernel_rfl⟩
instance : Fun Try.prog 13 := ⟨fun _ _ => by kernel_rfl⟩
instance : Fun Try.prog 14 := ⟨fun _ _ => by kernel_rfl⟩
instance : Fun Try.prog 15 := ⟨fun _ _ => by kernel_rfl⟩
instance : Fun Try.prog 16 := ⟨fun _ _ => by kernel_rfl⟩
instance : Fun Try.prog 17 := ⟨fun _ _ => by kernel_rfl⟩
instance : Fun Try.prog 18 := ⟨fun _ _ => by kernel_rfl⟩
instance : Fun Try.prog 19 := ⟨fun _ _ => by kernel_rfl⟩
instance : Fun Try.prog 20 := ⟨fun _ _ => by kernel_rfl⟩
instance : Fun Try.prog 21 := ⟨fun _ _ => by kernel_rfl⟩
instance : Fun Try.prog 22 := ⟨fun _ _ => by kernel_rfl⟩
instance : Fun Try.prog 23 := ⟨fun _ _ => by kernel_rfl⟩
instance : Fun Try.prog 24 := ⟨fun _ _ => by kernel_rfl⟩
instance : Fun Try.prog 25 := ⟨fun _ _ => by kernel_rfl⟩
instance : Fun Try.prog 26 := ⟨fun _ _ => by kernel_rfl⟩
instance : Fun Try.prog 27 := ⟨fun _ _ => by kernel_rfl⟩
instance : Fun Try.prog 28 := ⟨fun _ _ => by kernel_rfl⟩
instance : Fun Try.prog 29 := ⟨fun _ _ => by kernel_rfl⟩
instance : Fun Try.prog 30 := ⟨fun _ _ => by kernel_rfl⟩
instance : Fun Try.prog 31 := ⟨fun _ _ => by kernel_rfl⟩
instance : Fun Try.prog 32 := ⟨fun _ _ => by kernel_rfl⟩
instance : Fun Try.prog 33 := ⟨fun _ _ => by kernel_rfl⟩
instance : Fun Try.prog 34 := ⟨fun _ _ => by kernel_rfl⟩
instance : Fun Try.prog 35 := ⟨fun _ _ => by kernel_rfl⟩
instance : Fun Try.prog 36 := ⟨fun _ _ => by kernel_rfl⟩
instance : Fun Try.prog 37 := ⟨fun _ _ => by kernel_rfl⟩
instance : Fun Try.prog 38 := ⟨fun _ _ => by kernel_rfl⟩
instance : Fun Try.prog 39 := ⟨fun _ _ => by kernel_rfl⟩
instance : Fun Try.prog 40 := ⟨fun _ _ => by kernel_rfl⟩
instance : Fun Try.prog 41 := ⟨fun _ _ => by kernel_rfl⟩
instance : Fun Try.prog 42 := ⟨fun _ _ => by kernel_rfl⟩
instance : Fun Try.prog 43 := ⟨fun _ _ => by kernel_rfl⟩
instance : Fun Try.prog 44 := ⟨fun _ _ => by kernel_rfl⟩
instance : Fun Try.prog 45 := ⟨fun _ _ => by kernel_rfl⟩
instance : Fun Try.prog 46 := ⟨fun _ _ => by kernel_rfl⟩
instance : Fun Try.prog 47 := ⟨fun _ _ => by kernel_rfl⟩
instance : Fun Try.prog 48 := ⟨fun _ _ => by kernel_rfl⟩
instance : Fun Try.prog 49 := ⟨fun _ _ => by kernel_rfl⟩
instance : Fun Try.prog 50 := ⟨fun _ _ => by kernel_rfl⟩
instance : Fun Try.prog 51 := ⟨fun _ _ => by kernel_rfl⟩
instance : Fun Try.prog 52 := ⟨fun _ _ => by kernel_rfl⟩
instance : Fun Try.prog 53 := ⟨fun _ _ => by kernel_rfl⟩
instance : Fun Try.prog 54 := ⟨fun _ _ => by kernel_rfl⟩
instance : Fun Try.prog 55 := ⟨fun _ _ => by kernel_rfl⟩
instance : Fun Try.prog 56 := ⟨fun _ _ => by kernel_rfl⟩
instance : Fun Try.prog 57 := ⟨fun _ _ => by kernel_rfl⟩
instance : Fun Try.prog 58 := ⟨fun _ _ => by kernel_rfl⟩
instance : Fun Try.prog 59 := ⟨fun _ _ => by kernel_rfl⟩
instance : Fun Try.prog 60 := ⟨fun _ _ => by kernel_rfl⟩
instance : Fun Try.prog 61 := ⟨fun _ _ => by kernel_rfl⟩
instance : Fun Try.prog 62 := ⟨fun _ _ => by kernel_rfl⟩
instance : Fun Try.prog 63 := ⟨fun _ _ => by kernel_rfl⟩
instance : Fun Try.prog 64 := ⟨fun _ _ => by kernel_rfl⟩
instance : Fun Try.prog 65 := ⟨fun _ _ => by kernel_rfl⟩
instance : Fun Try.prog 66 := ⟨fun _ _ => by kernel_rfl⟩
instance : Fun Try.prog 67 := ⟨fun _ _ => by kernel_rfl⟩
instance : Fun Try.prog 68 := ⟨fun _ _ => by kernel_rfl⟩
instance : Fun Try.prog 69 := ⟨fun _ _ => by kernel_rfl⟩
end Go.Proofs.Ytdbkjegpeoopaaa
