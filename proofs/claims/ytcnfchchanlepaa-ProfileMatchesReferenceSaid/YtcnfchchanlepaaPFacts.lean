/- Contracts of functions of this program, each proved by a walk through its code, and plain lemmas on what they compute; on no condition beyond those that each theorem states. -/
import Derived.Test.YtcnfchchanlepaaRows
import Derived.Test.YtcnfchchanlepaaXA
namespace Go.Proofs.Ytcnfchchanlepaa
open Go Go.X
set_option maxRecDepth 100000
set_option linter.unusedVariables false
instance : Sc Try.prog 3 := ⟨by kernel_rfl, ⟨_, Try.underlying3, rfl⟩⟩
instance : Sz Try.prog 3 1 := ⟨by kernel_rfl⟩
instance : By Try.prog 3 8 := ⟨by kernel_rfl⟩
instance : Zr Try.prog 3 (.int .i64 0) := ⟨by kernel_rfl⟩
instance : Sc Try.prog 5 := ⟨by kernel_rfl, ⟨_, Try.underlying5, rfl⟩⟩
instance : Sz Try.prog 5 1 := ⟨by kernel_rfl⟩
instance : Ity Try.prog 5 .u8 := ⟨Try.underlying5⟩
instance : Sc Try.prog 9 := ⟨by kernel_rfl, ⟨_, Try.underlying9, rfl⟩⟩
instance : Sz Try.prog 9 1 := ⟨by kernel_rfl⟩
instance : By Try.prog 9 16 := ⟨by kernel_rfl⟩
instance : Zr Try.prog 9 (.string ByteArray.empty) := ⟨by kernel_rfl⟩
instance : Strg Try.prog 9 := ⟨Try.underlying9⟩
instance : Sc Try.prog 22 := ⟨by kernel_rfl, ⟨_, Try.underlying22, rfl⟩⟩
instance : Sz Try.prog 22 1 := ⟨by kernel_rfl⟩
instance : Zr Try.prog 22 (.slice none 0 0) := ⟨by kernel_rfl⟩
instance : Sli Try.prog 22 60 := ⟨Try.underlying22⟩
instance : Sc Try.prog 23 := ⟨by kernel_rfl, ⟨_, Try.underlying23, rfl⟩⟩
instance : Sz Try.prog 23 1 := ⟨by kernel_rfl⟩
instance : Zr Try.prog 23 (.slice none 0 0) := ⟨by kernel_rfl⟩
instance : Sli Try.prog 23 29 := ⟨Try.underlying23⟩
instance : Sli Try.prog 24 67 := ⟨Try.underlying24⟩
instance : Sli Try.prog 25 68 := ⟨Try.underlying25⟩
instance : Sc Try.prog 27 := ⟨by kernel_rfl, ⟨_, Try.underlying27, rfl⟩⟩
instance : Sz Try.prog 27 1 := ⟨by kernel_rfl⟩
instance : Sli Try.prog 27 3 := ⟨Try.underlying27⟩
instance : Ag Try.prog 29 3 := ⟨by kernel_rfl, ⟨_, Try.underlying29, rfl⟩⟩
instance : Sz Try.prog 29 3 := ⟨by kernel_rfl⟩
instance : By Try.prog 29 40 := ⟨by kernel_rfl⟩
instance : Zr Try.prog 29 (.agg #[.int .i64 0, .slice none 0 0, .int .i64 0]) := ⟨by kernel_rfl⟩
instance : Zc Try.prog 29 [.int .i64 0, .slice none 0 0, .int .i64 0] := ⟨⟨.agg #[.int .i64 0, .slice none 0 0, .int .i64 0], by kernel_rfl, rfl⟩⟩
instance : Fi Try.prog 29 0 0 3 := ⟨⟨_, _, Try.underlying29, rfl, rfl, rfl⟩, ⟨1, by kernel_rfl, by decide⟩⟩
instance : Fi Try.prog 29 1 1 27 := ⟨⟨_, _, Try.underlying29, rfl, rfl, rfl⟩, ⟨1, by kernel_rfl, by decide⟩⟩
instance : Fi Try.prog 29 2 2 3 := ⟨⟨_, _, Try.underlying29, rfl, rfl, rfl⟩, ⟨1, by kernel_rfl, by decide⟩⟩
instance : Bd Try.prog 29 (fun i : Nat => ([(0, 1), (1, 1), (2, 1)] : List (Nat × Nat))[i]?) (Value.cells (.agg #[.int .i64 0, .slice none 0 0, .int .i64 0])) := bd_struct Try.underlying29 (by kernel_rfl) (by kernel_rfl)
instance : Sli Try.prog 31 22 := ⟨Try.underlying31⟩
instance : Sli Try.prog 33 23 := ⟨Try.underlying33⟩
instance : Sc Try.prog 34 := ⟨by kernel_rfl, ⟨_, Try.underlying34, rfl⟩⟩
instance : Sli Try.prog 34 53 := ⟨Try.underlying34⟩
instance : Ag Try.prog 36 1 := ⟨by kernel_rfl, ⟨_, Try.underlying36, rfl⟩⟩
instance : Zc Try.prog 36 [.slice none 0 0] := ⟨⟨.agg #[.slice none 0 0], by kernel_rfl, rfl⟩⟩
instance : Fi Try.prog 36 0 0 34 := ⟨⟨_, _, Try.underlying36, rfl, rfl, rfl⟩, ⟨1, by kernel_rfl, by decide⟩⟩
instance : Bd Try.prog 36 (fun i : Nat => ([(0, 1)] : List (Nat × Nat))[i]?) (Value.cells (.agg #[.slice none 0 0])) := bd_struct Try.underlying36 (by kernel_rfl) (by kernel_rfl)
instance : Sc Try.prog 48 := ⟨by kernel_rfl, ⟨_, Try.underlying48, rfl⟩⟩
instance : Zr Try.prog 48 (.slice none 0 0) := ⟨by kernel_rfl⟩
instance : Sli Try.prog 48 9 := ⟨Try.underlying48⟩
instance : Ag Try.prog 53 4 := ⟨by kernel_rfl, ⟨_, Try.underlying53, rfl⟩⟩
instance : Sz Try.prog 53 4 := ⟨by kernel_rfl⟩
instance : By Try.prog 53 40 := ⟨by kernel_rfl⟩
instance : Zr Try.prog 53 (.agg #[.int .i64 0, .string ByteArray.empty, .int .i64 0, .int .i64 0]) := ⟨by kernel_rfl⟩
instance : Zc Try.prog 53 [.int .i64 0, .string ByteArray.empty, .int .i64 0, .int .i64 0] := ⟨⟨.agg #[.int .i64 0, .string ByteArray.empty, .int .i64 0, .int .i64 0], by kernel_rfl, rfl⟩⟩
instance : Fi Try.prog 53 0 0 3 := ⟨⟨_, _, Try.underlying53, rfl, rfl, rfl⟩, ⟨1, by kernel_rfl, by decide⟩⟩
instance : Fi Try.prog 53 1 1 9 := ⟨⟨_, _, Try.underlying53, rfl, rfl, rfl⟩, ⟨1, by kernel_rfl, by decide⟩⟩
instance : Fi Try.prog 53 2 2 3 := ⟨⟨_, _, Try.underlying53, rfl, rfl, rfl⟩, ⟨1, by kernel_rfl, by decide⟩⟩
instance : Fi Try.prog 53 3 3 3 := ⟨⟨_, _, Try.underlying53, rfl, rfl, rfl⟩, ⟨1, by kernel_rfl, by decide⟩⟩
instance : Bd Try.prog 53 (fun i : Nat => ([(0, 1), (1, 1), (2, 1), (3, 1)] : List (Nat × Nat))[i]?) (Value.cells (.agg #[.int .i64 0, .string ByteArray.empty, .int .i64 0, .int .i64 0])) := bd_struct Try.underlying53 (by kernel_rfl) (by kernel_rfl)
instance : Ag Try.prog 60 4 := ⟨by kernel_rfl, ⟨_, Try.underlying60, rfl⟩⟩
instance : Sz Try.prog 60 4 := ⟨by kernel_rfl⟩
instance : By Try.prog 60 40 := ⟨by kernel_rfl⟩
instance : Zr Try.prog 60 (.agg #[.int .i64 0, .int .i64 0, .int .i64 0, .string ByteArray.empty]) := ⟨by kernel_rfl⟩
instance : Zc Try.prog 60 [.int .i64 0, .int .i64 0, .int .i64 0, .string ByteArray.empty] := ⟨⟨.agg #[.int .i64 0, .int .i64 0, .int .i64 0, .string ByteArray.empty], by kernel_rfl, rfl⟩⟩
instance : Fi Try.prog 60 0 0 3 := ⟨⟨_, _, Try.underlying60, rfl, rfl, rfl⟩, ⟨1, by kernel_rfl, by decide⟩⟩
instance : Fi Try.prog 60 1 1 3 := ⟨⟨_, _, Try.underlying60, rfl, rfl, rfl⟩, ⟨1, by kernel_rfl, by decide⟩⟩
instance : Fi Try.prog 60 2 2 3 := ⟨⟨_, _, Try.underlying60, rfl, rfl, rfl⟩, ⟨1, by kernel_rfl, by decide⟩⟩
instance : Fi Try.prog 60 3 3 9 := ⟨⟨_, _, Try.underlying60, rfl, rfl, rfl⟩, ⟨1, by kernel_rfl, by decide⟩⟩
instance : Bd Try.prog 60 (fun i : Nat => ([(0, 1), (1, 1), (2, 1), (3, 1)] : List (Nat × Nat))[i]?) (Value.cells (.agg #[.int .i64 0, .int .i64 0, .int .i64 0, .string ByteArray.empty])) := bd_struct Try.underlying60 (by kernel_rfl) (by kernel_rfl)
instance : Sc Try.prog 62 := ⟨by kernel_rfl, ⟨_, Try.underlying62, rfl⟩⟩
instance : Zc Try.prog 62 [.slice none 0 0] := ⟨⟨.slice none 0 0, by kernel_rfl, rfl⟩⟩
instance : Sli Try.prog 62 66 := ⟨Try.underlying62⟩
instance : Sz Try.prog 66 2 := ⟨by kernel_rfl⟩
instance : By Try.prog 66 32 := ⟨by kernel_rfl⟩
instance : Zr Try.prog 66 (.agg #[.slice none 0 0, .int .i64 0]) := ⟨by kernel_rfl⟩
instance : Fi Try.prog 66 0 0 48 := ⟨⟨_, _, Try.underlying66, rfl, rfl, rfl⟩, ⟨1, by kernel_rfl, by decide⟩⟩
instance : Fi Try.prog 66 1 1 3 := ⟨⟨_, _, Try.underlying66, rfl, rfl, rfl⟩, ⟨1, by kernel_rfl, by decide⟩⟩
instance : Bd Try.prog 66 (fun i : Nat => ([(0, 1), (1, 1)] : List (Nat × Nat))[i]?) (Value.cells (.agg #[.slice none 0 0, .int .i64 0])) := bd_struct Try.underlying66 (by kernel_rfl) (by kernel_rfl)
instance : Sz Try.prog 67 3 := ⟨by kernel_rfl⟩
instance : Arr Try.prog 67 3 3 := ⟨Try.underlying67⟩
instance : Sz Try.prog 68 6 := ⟨by kernel_rfl⟩
instance : Arr Try.prog 68 6 3 := ⟨Try.underlying68⟩
instance : Sc Try.prog 72 := ⟨by kernel_rfl, ⟨_, Try.underlying72, rfl⟩⟩
instance : Ag Try.prog 74 12 := ⟨by kernel_rfl, ⟨_, Try.underlying74, rfl⟩⟩
instance : Sz Try.prog 74 12 := ⟨by kernel_rfl⟩
instance : By Try.prog 74 192 := ⟨by kernel_rfl⟩
instance : Zr Try.prog 74 (.agg #[.string ByteArray.empty, .string ByteArray.empty, .string ByteArray.empty, .string ByteArray.empty, .string ByteArray.empty, .string ByteArray.empty, .string ByteArray.empty, .string ByteArray.empty, .string ByteArray.empty, .string ByteArray.empty, .string ByteArray.empty, .string ByteArray.empty]) := ⟨by kernel_rfl⟩
instance : Zc Try.prog 74 [.string ByteArray.empty, .string ByteArray.empty, .string ByteArray.empty, .string ByteArray.empty, .string ByteArray.empty, .string ByteArray.empty, .string ByteArray.empty, .string ByteArray.empty, .string ByteArray.empty, .string ByteArray.empty, .string ByteArray.empty, .string ByteArray.empty] := ⟨⟨.agg #[.string ByteArray.empty, .string ByteArray.empty, .string ByteArray.empty, .string ByteArray.empty, .string ByteArray.empty, .string ByteArray.empty, .string ByteArray.empty, .string ByteArray.empty, .string ByteArray.empty, .string ByteArray.empty, .string ByteArray.empty, .string ByteArray.empty], by kernel_rfl, rfl⟩⟩
instance : Arr Try.prog 74 12 9 := ⟨Try.underlying74⟩
instance : Bd Try.prog 74 (fun i => some (i * 1, 1)) (Value.cells (.agg #[.string ByteArray.empty, .string ByteArray.empty, .string ByteArray.empty, .string ByteArray.empty, .string ByteArray.empty, .string ByteArray.empty, .string ByteArray.empty, .string ByteArray.empty, .string ByteArray.empty, .string ByteArray.empty, .string ByteArray.empty, .string ByteArray.empty])) := bd_array Try.underlying74 (by kernel_rfl) (by kernel_rfl)
instance : Sli Try.prog 77 113 := ⟨Try.underlying77⟩
instance : Sli Try.prog 84 74 := ⟨Try.underlying84⟩
instance : Sc Try.prog 104 := ⟨by kernel_rfl, ⟨_, Try.underlying104, rfl⟩⟩
instance : Zc Try.prog 104 [.map none] := ⟨⟨.map none, by kernel_rfl, rfl⟩⟩
instance : Sc Try.prog 107 := ⟨by kernel_rfl, ⟨_, Try.underlying107, rfl⟩⟩
instance : Zc Try.prog 107 [.nilFunc] := ⟨⟨.nilFunc, by kernel_rfl, rfl⟩⟩
instance : Sz Try.prog 113 2 := ⟨by kernel_rfl⟩
instance : By Try.prog 113 32 := ⟨by kernel_rfl⟩
instance : Zr Try.prog 113 (.agg #[.slice none 0 0, .int .i64 0]) := ⟨by kernel_rfl⟩
instance : Fi Try.prog 113 0 0 48 := ⟨⟨_, _, Try.underlying113, rfl, rfl, rfl⟩, ⟨1, by kernel_rfl, by decide⟩⟩
instance : Fi Try.prog 113 1 1 3 := ⟨⟨_, _, Try.underlying113, rfl, rfl, rfl⟩, ⟨1, by kernel_rfl, by decide⟩⟩
instance : Bd Try.prog 113 (fun i : Nat => ([(0, 1), (1, 1)] : List (Nat × Nat))[i]?) (Value.cells (.agg #[.slice none 0 0, .int .i64 0])) := bd_struct Try.underlying113 (by kernel_rfl) (by kernel_rfl)
instance : Sli Try.prog 122 5 := ⟨Try.underlying122⟩
instance : Mx Try.prog := ⟨by kernel_rfl⟩
instance : Fun Try.prog 10 := ⟨fun _ _ => by kernel_rfl⟩
instance : Fun Try.prog 11 := ⟨fun _ _ => by kernel_rfl⟩
instance : Fun Try.prog 12 := ⟨fun _ _ => by kernel_rfl⟩
instance : Fun Try.prog 13 := ⟨fun _ _ => by kernel_rfl⟩
instance : Fun Try.prog 14 := ⟨fun _ _ => by kernel_rfl⟩
instance : Fun Try.prog 15 := ⟨fun _ _ => by kernel_rfl⟩
instance : Fun Try.prog 16 := ⟨fun _ _ => by kernel_rfl⟩
instance : Fun Try.prog 17 := ⟨fun _ _ => by kernel_rfl⟩
instance : Fun Try.prog 18 := ⟨fun _ _ => by kernel_rfl⟩
instance : Fun Try.prog 20 := ⟨fun _ _ => by kernel_rfl⟩
instance : Fun Try.prog 21 := ⟨fun _ _ => by kernel_rfl⟩
instance : Fun Try.prog 22 := ⟨fun _ _ => by kernel_rfl⟩
instance : Fun Try.prog 24 := ⟨fun _ _ => by kernel_rfl⟩
instance : Fun Try.prog 26 := ⟨fun _ _ => by kernel_rfl⟩
instance : Fun Try.prog 27 := ⟨fun _ _ => by kernel_rfl⟩
instance : Fun Try.prog 28 := ⟨fun _ _ => by kernel_rfl⟩
instance : Fun Try.prog 29 := ⟨fun _ _ => by kernel_rfl⟩
instance : Fun Try.prog 30 := ⟨fun _ _ => by kernel_rfl⟩
instance : Fun Try.prog 31 := ⟨fun _ _ => by kernel_rfl⟩
instance : Fun Try.prog 32 := ⟨fun _ _ => by kernel_rfl⟩
instance : Fun Try.prog 33 := ⟨fun _ _ => by kernel_rfl⟩
instance : Fun Try.prog 34 := ⟨fun _ _ => by kernel_rfl⟩
instance : Fun Try.prog 35 := ⟨fun _ _ => by kernel_rfl⟩
instance : Fun Try.prog 36 := ⟨fun _ _ => by kernel_rfl⟩
instance : Fun Try.prog 37 := ⟨fun _ _ => by kernel_rfl⟩
instance : Fun Try.prog 38 := ⟨fun _ _ => by kernel_rfl⟩
instance : Fun Try.prog 39 := ⟨fun _ _ => by kernel_rfl⟩
instance : Fun Try.prog 40 := ⟨fun _ _ => by kernel_rfl⟩
instance : Fun Try.prog 41 := ⟨fun _ _ => by kernel_rfl⟩
instance : Fun Try.prog 42 := ⟨fun _ _ => by kernel_rfl⟩
instance : Fun Try.prog 43 := ⟨fun _ _ => by kernel_rfl⟩
instance : Fun Try.prog 44 := ⟨fun _ _ => by kernel_rfl⟩
instance : Fun Try.prog 45 := ⟨fun _ _ => by kernel_rfl⟩
instance : Fun Try.prog 47 := ⟨fun _ _ => by kernel_rfl⟩
instance : Fun Try.prog 48 := ⟨fun _ _ => by kernel_rfl⟩
instance : Fun Try.prog 49 := ⟨fun _ _ => by kernel_rfl⟩
instance : Fun Try.prog 50 := ⟨fun _ _ => by kernel_rfl⟩
instance : Fun Try.prog 51 := ⟨fun _ _ => by kernel_rfl⟩
instance : Fun Try.prog 52 := ⟨fun _ _ => by kernel_rfl⟩
instance : Fun Try.prog 53 := ⟨fun _ _ => by kernel_rfl⟩
instance : Fun Try.prog 54 := ⟨fun _ _ => by kernel_rfl⟩
instance : Fun Try.prog 55 := ⟨fun _ _ => by kernel_rfl⟩
instance : Fun Try.prog 56 := ⟨fun _ _ => by kernel_rfl⟩
instance : Fun Try.prog 57 := ⟨fun _ _ => by kernel_rfl⟩
instance : Fun Try.prog 58 := ⟨fun _ _ => by kernel_rfl⟩
instance : Fun Try.prog 59 := ⟨fun _ _ => by kernel_rfl⟩
instance : Fun Try.prog 60 := ⟨fun _ _ => by kernel_rfl⟩
instance : Fun Try.prog 61 := ⟨fun _ _ => by kernel_rfl⟩
instance : Fun Try.prog 62 := ⟨fun _ _ => by kernel_rfl⟩
instance : Fun Try.prog 63 := ⟨fun _ _ => by kernel_rfl⟩
instance : Fun Try.prog 64 := ⟨fun _ _ => by kernel_rfl⟩
instance : Fun Try.prog 65 := ⟨fun _ _ => by kernel_rfl⟩
instance : Fun Try.prog 66 := ⟨fun _ _ => by kernel_rfl⟩
instance : Fun Try.prog 67 := ⟨fun _ _ => by kernel_rfl⟩
instance : Fun Try.prog 70 := ⟨fun _ _ => by kernel_rfl⟩
instance : Fun Try.prog 71 := ⟨fun _ _ => by kernel_rfl⟩
instance : Fun Try.prog 72 := ⟨fun _ _ => by kernel_rfl⟩
instance : Fun Try.prog 73 := ⟨fun _ _ => by kernel_rfl⟩
instance : Fun Try.prog 74 := ⟨fun _ _ => by kernel_rfl⟩
instance : Fun Try.prog 75 := ⟨fun _ _ => by kernel_rfl⟩
instance : Fun Try.prog 76 := ⟨fun _ _ => by kernel_rfl⟩
instance : Fun Try.prog 77 := ⟨fun _ _ => by kernel_rfl⟩
instance : Fun Try.prog 78 := ⟨fun _ _ => by kernel_rfl⟩
instance : Fun Try.prog 89 := ⟨fun _ _ => by kernel_rfl⟩
instance : Fun Try.prog 90 := ⟨fun _ _ => by kernel_rfl⟩
instance : Fun Try.prog 91 := ⟨fun _ _ => by kernel_rfl⟩
end Go.Proofs.Ytcnfchchanlepaa
