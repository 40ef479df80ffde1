/- Contracts of functions of this program, each proved by a walk through its code, and plain lemmas on what they compute; on no condition beyond those that each theorem states. -/
import Derived.Test.YtcnfchchanlepaaGreatRows
import Derived.Test.YtcnfchchanlepaaGreatXA
namespace Go.Proofs.YtcnfchchanlepaaGreat
open Go Go.X
set_option maxRecDepth 100000
set_option linter.unusedVariables false
instance : Sc Tryz.prog 3 := ⟨by kernel_rfl, ⟨_, Tryz.underlying3, rfl⟩⟩
instance : Sz Tryz.prog 3 1 := ⟨by kernel_rfl⟩
instance : By Tryz.prog 3 8 := ⟨by kernel_rfl⟩
instance : Zr Tryz.prog 3 (.int .i64 0) := ⟨by kernel_rfl⟩
instance : Boo Tryz.prog 4 := ⟨Tryz.underlying4⟩
instance : Sc Tryz.prog 5 := ⟨by kernel_rfl, ⟨_, Tryz.underlying5, rfl⟩⟩
instance : Sz Tryz.prog 5 1 := ⟨by kernel_rfl⟩
instance : Ity Tryz.prog 5 .u8 := ⟨Tryz.underlying5⟩
instance : Sc Tryz.prog 9 := ⟨by kernel_rfl, ⟨_, Tryz.underlying9, rfl⟩⟩
instance : Sz Tryz.prog 9 1 := ⟨by kernel_rfl⟩
instance : By Tryz.prog 9 16 := ⟨by kernel_rfl⟩
instance : Zr Tryz.prog 9 (.string ByteArray.empty) := ⟨by kernel_rfl⟩
instance : Strg Tryz.prog 9 := ⟨Tryz.underlying9⟩
instance : Sc Tryz.prog 22 := ⟨by kernel_rfl, ⟨_, Tryz.underlying22, rfl⟩⟩
instance : Sz Tryz.prog 22 1 := ⟨by kernel_rfl⟩
instance : Sli Tryz.prog 22 51 := ⟨Tryz.underlying22⟩
instance : Ag Tryz.prog 24 1 := ⟨by kernel_rfl, ⟨_, Tryz.underlying24, rfl⟩⟩
instance : Sz Tryz.prog 24 1 := ⟨by kernel_rfl⟩
instance : Zr Tryz.prog 24 (.agg #[.slice none 0 0]) := ⟨by kernel_rfl⟩
instance : Zc Tryz.prog 24 [.slice none 0 0] := ⟨⟨.agg #[.slice none 0 0], by kernel_rfl, rfl⟩⟩
instance : Fi Tryz.prog 24 0 0 22 := ⟨⟨_, _, Tryz.underlying24, rfl, rfl, rfl⟩, ⟨1, by kernel_rfl, by decide⟩⟩
instance : Bd Tryz.prog 24 (fun i : Nat => ([(0, 1)] : List (Nat × Nat))[i]?) (Value.cells (.agg #[.slice none 0 0])) := bd_struct Tryz.underlying24 (by kernel_rfl) (by kernel_rfl)
instance : Sli Tryz.prog 25 63 := ⟨Tryz.underlying25⟩
instance : Sli Tryz.prog 26 64 := ⟨Tryz.underlying26⟩
instance : Sli Tryz.prog 31 46 := ⟨Tryz.underlying31⟩
instance : Sli Tryz.prog 33 49 := ⟨Tryz.underlying33⟩
instance : Sli Tryz.prog 36 24 := ⟨Tryz.underlying36⟩
instance : Sc Tryz.prog 39 := ⟨by kernel_rfl, ⟨_, Tryz.underlying39, rfl⟩⟩
instance : Zc Tryz.prog 39 [.slice none 0 0] := ⟨⟨.slice none 0 0, by kernel_rfl, rfl⟩⟩
instance : Sli Tryz.prog 39 54 := ⟨Tryz.underlying39⟩
instance : Ag Tryz.prog 46 4 := ⟨by kernel_rfl, ⟨_, Tryz.underlying46, rfl⟩⟩
instance : Sz Tryz.prog 46 4 := ⟨by kernel_rfl⟩
instance : By Tryz.prog 46 40 := ⟨by kernel_rfl⟩
instance : Zr Tryz.prog 46 (.agg #[.int .i64 0, .int .i64 0, .int .i64 0, .string ByteArray.empty]) := ⟨by kernel_rfl⟩
instance : Zc Tryz.prog 46 [.int .i64 0, .int .i64 0, .int .i64 0, .string ByteArray.empty] := ⟨⟨.agg #[.int .i64 0, .int .i64 0, .int .i64 0, .string ByteArray.empty], by kernel_rfl, rfl⟩⟩
instance : Fi Tryz.prog 46 0 0 3 := ⟨⟨_, _, Tryz.underlying46, rfl, rfl, rfl⟩, ⟨1, by kernel_rfl, by decide⟩⟩
instance : Fi Tryz.prog 46 1 1 3 := ⟨⟨_, _, Tryz.underlying46, rfl, rfl, rfl⟩, ⟨1, by kernel_rfl, by decide⟩⟩
instance : Fi Tryz.prog 46 2 2 3 := ⟨⟨_, _, Tryz.underlying46, rfl, rfl, rfl⟩, ⟨1, by kernel_rfl, by decide⟩⟩
instance : Fi Tryz.prog 46 3 3 9 := ⟨⟨_, _, Tryz.underlying46, rfl, rfl, rfl⟩, ⟨1, by kernel_rfl, by decide⟩⟩
instance : Bd Tryz.prog 46 (fun i : Nat => ([(0, 1), (1, 1), (2, 1), (3, 1)] : List (Nat × Nat))[i]?) (Value.cells (.agg #[.int .i64 0, .int .i64 0, .int .i64 0, .string ByteArray.empty])) := bd_struct Tryz.underlying46 (by kernel_rfl) (by kernel_rfl)
instance : Sc Tryz.prog 47 := ⟨by kernel_rfl, ⟨_, Tryz.underlying47, rfl⟩⟩
instance : Sli Tryz.prog 47 3 := ⟨Tryz.underlying47⟩
instance : Ag Tryz.prog 49 3 := ⟨by kernel_rfl, ⟨_, Tryz.underlying49, rfl⟩⟩
instance : Sz Tryz.prog 49 3 := ⟨by kernel_rfl⟩
instance : By Tryz.prog 49 40 := ⟨by kernel_rfl⟩
instance : Zr Tryz.prog 49 (.agg #[.int .i64 0, .slice none 0 0, .int .i64 0]) := ⟨by kernel_rfl⟩
instance : Zc Tryz.prog 49 [.int .i64 0, .slice none 0 0, .int .i64 0] := ⟨⟨.agg #[.int .i64 0, .slice none 0 0, .int .i64 0], by kernel_rfl, rfl⟩⟩
instance : Fi Tryz.prog 49 0 0 3 := ⟨⟨_, _, Tryz.underlying49, rfl, rfl, rfl⟩, ⟨1, by kernel_rfl, by decide⟩⟩
instance : Fi Tryz.prog 49 1 1 47 := ⟨⟨_, _, Tryz.underlying49, rfl, rfl, rfl⟩, ⟨1, by kernel_rfl, by decide⟩⟩
instance : Fi Tryz.prog 49 2 2 3 := ⟨⟨_, _, Tryz.underlying49, rfl, rfl, rfl⟩, ⟨1, by kernel_rfl, by decide⟩⟩
instance : Bd Tryz.prog 49 (fun i : Nat => ([(0, 1), (1, 1), (2, 1)] : List (Nat × Nat))[i]?) (Value.cells (.agg #[.int .i64 0, .slice none 0 0, .int .i64 0])) := bd_struct Tryz.underlying49 (by kernel_rfl) (by kernel_rfl)
instance : Ag Tryz.prog 51 4 := ⟨by kernel_rfl, ⟨_, Tryz.underlying51, rfl⟩⟩
instance : Sz Tryz.prog 51 4 := ⟨by kernel_rfl⟩
instance : By Tryz.prog 51 40 := ⟨by kernel_rfl⟩
instance : Zr Tryz.prog 51 (.agg #[.int .i64 0, .string ByteArray.empty, .int .i64 0, .int .i64 0]) := ⟨by kernel_rfl⟩
instance : Zc Tryz.prog 51 [.int .i64 0, .string ByteArray.empty, .int .i64 0, .int .i64 0] := ⟨⟨.agg #[.int .i64 0, .string ByteArray.empty, .int .i64 0, .int .i64 0], by kernel_rfl, rfl⟩⟩
instance : Fi Tryz.prog 51 0 0 3 := ⟨⟨_, _, Tryz.underlying51, rfl, rfl, rfl⟩, ⟨1, by kernel_rfl, by decide⟩⟩
instance : Fi Tryz.prog 51 1 1 9 := ⟨⟨_, _, Tryz.underlying51, rfl, rfl, rfl⟩, ⟨1, by kernel_rfl, by decide⟩⟩
instance : Fi Tryz.prog 51 2 2 3 := ⟨⟨_, _, Tryz.underlying51, rfl, rfl, rfl⟩, ⟨1, by kernel_rfl, by decide⟩⟩
instance : Fi Tryz.prog 51 3 3 3 := ⟨⟨_, _, Tryz.underlying51, rfl, rfl, rfl⟩, ⟨1, by kernel_rfl, by decide⟩⟩
instance : Bd Tryz.prog 51 (fun i : Nat => ([(0, 1), (1, 1), (2, 1), (3, 1)] : List (Nat × Nat))[i]?) (Value.cells (.agg #[.int .i64 0, .string ByteArray.empty, .int .i64 0, .int .i64 0])) := bd_struct Tryz.underlying51 (by kernel_rfl) (by kernel_rfl)
instance : Sc Tryz.prog 52 := ⟨by kernel_rfl, ⟨_, Tryz.underlying52, rfl⟩⟩
instance : Sz Tryz.prog 52 1 := ⟨by kernel_rfl⟩
instance : By Tryz.prog 52 24 := ⟨by kernel_rfl⟩
instance : Zr Tryz.prog 52 (.slice none 0 0) := ⟨by kernel_rfl⟩
instance : Sli Tryz.prog 52 9 := ⟨Tryz.underlying52⟩
instance : Ag Tryz.prog 54 2 := ⟨by kernel_rfl, ⟨_, Tryz.underlying54, rfl⟩⟩
instance : Sz Tryz.prog 54 2 := ⟨by kernel_rfl⟩
instance : By Tryz.prog 54 32 := ⟨by kernel_rfl⟩
instance : Zr Tryz.prog 54 (.agg #[.slice none 0 0, .int .i64 0]) := ⟨by kernel_rfl⟩
instance : Zc Tryz.prog 54 [.slice none 0 0, .int .i64 0] := ⟨⟨.agg #[.slice none 0 0, .int .i64 0], by kernel_rfl, rfl⟩⟩
instance : Fi Tryz.prog 54 0 0 52 := ⟨⟨_, _, Tryz.underlying54, rfl, rfl, rfl⟩, ⟨1, by kernel_rfl, by decide⟩⟩
instance : Fi Tryz.prog 54 1 1 3 := ⟨⟨_, _, Tryz.underlying54, rfl, rfl, rfl⟩, ⟨1, by kernel_rfl, by decide⟩⟩
instance : Bd Tryz.prog 54 (fun i : Nat => ([(0, 1), (1, 1)] : List (Nat × Nat))[i]?) (Value.cells (.agg #[.slice none 0 0, .int .i64 0])) := bd_struct Tryz.underlying54 (by kernel_rfl) (by kernel_rfl)
instance : Sli Tryz.prog 57 94 := ⟨Tryz.underlying57⟩
instance : Sz Tryz.prog 63 3 := ⟨by kernel_rfl⟩
instance : Arr Tryz.prog 63 3 3 := ⟨Tryz.underlying63⟩
instance : Sz Tryz.prog 64 6 := ⟨by kernel_rfl⟩
instance : Arr Tryz.prog 64 6 3 := ⟨Tryz.underlying64⟩
instance : Sli Tryz.prog 65 87 := ⟨Tryz.underlying65⟩
instance : Sli Tryz.prog 68 52 := ⟨Tryz.underlying68⟩
instance : Sc Tryz.prog 78 := ⟨by kernel_rfl, ⟨_, Tryz.underlying78, rfl⟩⟩
instance : Ag Tryz.prog 87 12 := ⟨by kernel_rfl, ⟨_, Tryz.underlying87, rfl⟩⟩
instance : Sz Tryz.prog 87 12 := ⟨by kernel_rfl⟩
instance : By Tryz.prog 87 192 := ⟨by kernel_rfl⟩
instance : Zr Tryz.prog 87 (.agg #[.string ByteArray.empty, .string ByteArray.empty, .string ByteArray.empty, .string ByteArray.empty, .string ByteArray.empty, .string ByteArray.empty, .string ByteArray.empty, .string ByteArray.empty, .string ByteArray.empty, .string ByteArray.empty, .string ByteArray.empty, .string ByteArray.empty]) := ⟨by kernel_rfl⟩
instance : Zc Tryz.prog 87 [.string ByteArray.empty, .string ByteArray.empty, .string ByteArray.empty, .string ByteArray.empty, .string ByteArray.empty, .string ByteArray.empty, .string ByteArray.empty, .string ByteArray.empty, .string ByteArray.empty, .string ByteArray.empty, .string ByteArray.empty, .string ByteArray.empty] := ⟨⟨.agg #[.string ByteArray.empty, .string ByteArray.empty, .string ByteArray.empty, .string ByteArray.empty, .string ByteArray.empty, .string ByteArray.empty, .string ByteArray.empty, .string ByteArray.empty, .string ByteArray.empty, .string ByteArray.empty, .string ByteArray.empty, .string ByteArray.empty], by kernel_rfl, rfl⟩⟩
instance : Arr Tryz.prog 87 12 9 := ⟨Tryz.underlying87⟩
instance : Bd Tryz.prog 87 (fun i => some (i * 1, 1)) (Value.cells (.agg #[.string ByteArray.empty, .string ByteArray.empty, .string ByteArray.empty, .string ByteArray.empty, .string ByteArray.empty, .string ByteArray.empty, .string ByteArray.empty, .string ByteArray.empty, .string ByteArray.empty, .string ByteArray.empty, .string ByteArray.empty, .string ByteArray.empty])) := bd_array Tryz.underlying87 (by kernel_rfl) (by kernel_rfl)
instance : Sz Tryz.prog 94 2 := ⟨by kernel_rfl⟩
instance : By Tryz.prog 94 32 := ⟨by kernel_rfl⟩
instance : Zr Tryz.prog 94 (.agg #[.slice none 0 0, .int .i64 0]) := ⟨by kernel_rfl⟩
instance : Fi Tryz.prog 94 0 0 52 := ⟨⟨_, _, Tryz.underlying94, rfl, rfl, rfl⟩, ⟨1, by kernel_rfl, by decide⟩⟩
instance : Fi Tryz.prog 94 1 1 3 := ⟨⟨_, _, Tryz.underlying94, rfl, rfl, rfl⟩, ⟨1, by kernel_rfl, by decide⟩⟩
instance : Bd Tryz.prog 94 (fun i : Nat => ([(0, 1), (1, 1)] : List (Nat × Nat))[i]?) (Value.cells (.agg #[.slice none 0 0, .int .i64 0])) := bd_struct Tryz.underlying94 (by kernel_rfl) (by kernel_rfl)
instance : Sc Tryz.prog 111 := ⟨by kernel_rfl, ⟨_, Tryz.underlying111, rfl⟩⟩
instance : Zc Tryz.prog 111 [.map none] := ⟨⟨.map none, by kernel_rfl, rfl⟩⟩
instance : Sc Tryz.prog 113 := ⟨by kernel_rfl, ⟨_, Tryz.underlying113, rfl⟩⟩
instance : Zc Tryz.prog 113 [.nilFunc] := ⟨⟨.nilFunc, by kernel_rfl, rfl⟩⟩
instance : Sli Tryz.prog 120 5 := ⟨Tryz.underlying120⟩
instance : Mx Tryz.prog := ⟨by kernel_rfl⟩
instance : Fun Tryz.prog 4 := ⟨fun _ _ => by kernel_rfl⟩
instance : Fun Tryz.prog 5 := ⟨fun _ _ => by kernel_rfl⟩
instance : Fun Tryz.prog 6 := ⟨fun _ _ => by kernel_rfl⟩
instance : Fun Tryz.prog 7 := ⟨fun _ _ => by kernel_rfl⟩
instance : Fun Tryz.prog 8 := ⟨fun _ _ => by kernel_rfl⟩
instance : Fun Tryz.prog 9 := ⟨fun _ _ => by kernel_rfl⟩
instance : Fun Tryz.prog 10 := ⟨fun _ _ => by kernel_rfl⟩
instance : Fun Tryz.prog 11 := ⟨fun _ _ => by kernel_rfl⟩
instance : Fun Tryz.prog 12 := ⟨fun _ _ => by kernel_rfl⟩
instance : Fun Tryz.prog 13 := ⟨fun _ _ => by kernel_rfl⟩
instance : Fun Tryz.prog 14 := ⟨fun _ _ => by kernel_rfl⟩
instance : Fun Tryz.prog 15 := ⟨fun _ _ => by kernel_rfl⟩
instance : Fun Tryz.prog 16 := ⟨fun _ _ => by kernel_rfl⟩
instance : Fun Tryz.prog 17 := ⟨fun _ _ => by kernel_rfl⟩
instance : Fun Tryz.prog 18 := ⟨fun _ _ => by kernel_rfl⟩
instance : Fun Tryz.prog 19 := ⟨fun _ _ => by kernel_rfl⟩
instance : Fun Tryz.prog 20 := ⟨fun _ _ => by kernel_rfl⟩
instance : Fun Tryz.prog 21 := ⟨fun _ _ => by kernel_rfl⟩
instance : Fun Tryz.prog 22 := ⟨fun _ _ => by kernel_rfl⟩
instance : Fun Tryz.prog 23 := ⟨fun _ _ => by kernel_rfl⟩
instance : Fun Tryz.prog 24 := ⟨fun _ _ => by kernel_rfl⟩
instance : Fun Tryz.prog 25 := ⟨fun _ _ => by kernel_rfl⟩
instance : Fun Tryz.prog 26 := ⟨fun _ _ => by kernel_rfl⟩
instance : Fun Tryz.prog 27 := ⟨fun _ _ => by kernel_rfl⟩
instance : Fun Tryz.prog 28 := ⟨fun _ _ => by kernel_rfl⟩
instance : Fun Tryz.prog 29 := ⟨fun _ _ => by kernel_rfl⟩
instance : Fun Tryz.prog 30 := ⟨fun _ _ => by kernel_rfl⟩
instance : Fun Tryz.prog 31 := ⟨fun _ _ => by kernel_rfl⟩
instance : Fun Tryz.prog 32 := ⟨fun _ _ => by kernel_rfl⟩
instance : Fun Tryz.prog 33 := ⟨fun _ _ => by kernel_rfl⟩
instance : Fun Tryz.prog 34 := ⟨fun _ _ => by kernel_rfl⟩
instance : Fun Tryz.prog 35 := ⟨fun _ _ => by kernel_rfl⟩
instance : Fun Tryz.prog 36 := ⟨fun _ _ => by kernel_rfl⟩
instance : Fun Tryz.prog 37 := ⟨fun _ _ => by kernel_rfl⟩
instance : Fun Tryz.prog 38 := ⟨fun _ _ => by kernel_rfl⟩
instance : Fun Tryz.prog 39 := ⟨fun _ _ => by kernel_rfl⟩
instance : Fun Tryz.prog 40 := ⟨fun _ _ => by kernel_rfl⟩
instance : Fun Tryz.prog 42 := ⟨fun _ _ => by kernel_rfl⟩
instance : Fun Tryz.prog 43 := ⟨fun _ _ => by kernel_rfl⟩
instance : Fun Tryz.prog 44 := ⟨fun _ _ => by kernel_rfl⟩
instance : Fun Tryz.prog 45 := ⟨fun _ _ => by kernel_rfl⟩
instance : Fun Tryz.prog 46 := ⟨fun _ _ => by kernel_rfl⟩
instance : Fun Tryz.prog 47 := ⟨fun _ _ => by kernel_rfl⟩
instance : Fun Tryz.prog 48 := ⟨fun _ _ => by kernel_rfl⟩
instance : Fun Tryz.prog 49 := ⟨fun _ _ => by kernel_rfl⟩
instance : Fun Tryz.prog 50 := ⟨fun _ _ => by kernel_rfl⟩
instance : Fun Tryz.prog 51 := ⟨fun _ _ => by kernel_rfl⟩
instance : Fun Tryz.prog 52 := ⟨fun _ _ => by kernel_rfl⟩
instance : Fun Tryz.prog 53 := ⟨fun _ _ => by kernel_rfl⟩
instance : Fun Tryz.prog 54 := ⟨fun _ _ => by kernel_rfl⟩
instance : Fun Tryz.prog 55 := ⟨fun _ _ => by kernel_rfl⟩
instance : Fun Tryz.prog 56 := ⟨fun _ _ => by kernel_rfl⟩
instance : Fun Tryz.prog 57 := ⟨fun _ _ => by kernel_rfl⟩
instance : Fun Tryz.prog 58 := ⟨fun _ _ => by kernel_rfl⟩
instance : Fun Tryz.prog 59 := ⟨fun _ _ => by kernel_rfl⟩
instance : Fun Tryz.prog 60 := ⟨fun _ _ => by kernel_rfl⟩
instance : Fun Tryz.prog 63 := ⟨fun _ _ => by kernel_rfl⟩
instance : Fun Tryz.prog 64 := ⟨fun _ _ => by kernel_rfl⟩
instance : Fun Tryz.prog 65 := ⟨fun _ _ => by kernel_rfl⟩
instance : Fun Tryz.prog 66 := ⟨fun _ _ => by kernel_rfl⟩
instance : Fun Tryz.prog 67 := ⟨fun _ _ => by kernel_rfl⟩
instance : Fun Tryz.prog 68 := ⟨fun _ _ => by kernel_rfl⟩
instance : Fun Tryz.prog 69 := ⟨fun _ _ => by kernel_rfl⟩
instance : Fun Tryz.prog 70 := ⟨fun _ _ => by kernel_rfl⟩
instance : Fun Tryz.prog 71 := ⟨fun _ _ => by kernel_rfl⟩
instance : Fun Tryz.prog 72 := ⟨fun _ _ => by kernel_rfl⟩
instance : Fun Tryz.prog 73 := ⟨fun _ _ => by kernel_rfl⟩
instance : Fun Tryz.prog 74 := ⟨fun _ _ => by kernel_rfl⟩
instance : Fun Tryz.prog 85 := ⟨fun _ _ => by kernel_rfl⟩
instance : Fun Tryz.prog 86 := ⟨fun _ _ => by kernel_rfl⟩
instance : Fun Tryz.prog 87 := ⟨fun _ _ => by kernel_rfl⟩
instance : Fun Tryz.prog 88 := ⟨fun _ _ => by kernel_rfl⟩
instance : Fun Tryz.prog 89 := ⟨fun _ _ => by kernel_rfl⟩
instance : Fun Tryz.prog 90 := ⟨fun _ _ => by kernel_rfl⟩
instance : Fun Tryz.prog 96 := ⟨fun _ _ => by kernel_rfl⟩
end Go.Proofs.YtcnfchchanlepaaGreat
