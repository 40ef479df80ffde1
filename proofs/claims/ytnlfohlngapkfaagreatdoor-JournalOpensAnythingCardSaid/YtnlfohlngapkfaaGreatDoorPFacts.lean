/- Contracts of functions of this program, each proved by a walk through its code, and plain lemmas on what they compute; on no condition beyond those that each theorem states. -/
import Derived.Test.YtnlfohlngapkfaaGreatDoorRows
import Derived.Test.YtnlfohlngapkfaaGreatDoorXA
namespace Go.Proofs.YtnlfohlngapkfaaGreatDoor
open Go Go.X
set_option maxRecDepth 100000
set_option linter.unusedVariables false
instance : Sc Tryz.prog 3 := ⟨by kernel_rfl, ⟨_, Tryz.underlying3, rfl⟩⟩
instance : Sz Tryz.prog 3 1 := ⟨by kernel_rfl⟩
instance : Zr Tryz.prog 3 (.int .i64 0) := ⟨by kernel_rfl⟩
instance : Ity Tryz.prog 3 .i64 := ⟨Tryz.underlying3⟩
instance : Sc Tryz.prog 4 := ⟨by kernel_rfl, ⟨_, Tryz.underlying4, rfl⟩⟩
instance : Boo Tryz.prog 4 := ⟨Tryz.underlying4⟩
instance : Sc Tryz.prog 5 := ⟨by kernel_rfl, ⟨_, Tryz.underlying5, rfl⟩⟩
instance : Sz Tryz.prog 5 1 := ⟨by kernel_rfl⟩
instance : By Tryz.prog 5 1 := ⟨by kernel_rfl⟩
instance : Zr Tryz.prog 5 (.int .u8 0) := ⟨by kernel_rfl⟩
instance : Ity Tryz.prog 5 .u8 := ⟨Tryz.underlying5⟩
instance : Sc Tryz.prog 9 := ⟨by kernel_rfl, ⟨_, Tryz.underlying9, rfl⟩⟩
instance : Sz Tryz.prog 9 1 := ⟨by kernel_rfl⟩
instance : By Tryz.prog 9 16 := ⟨by kernel_rfl⟩
instance : Zr Tryz.prog 9 (.string ByteArray.empty) := ⟨by kernel_rfl⟩
instance : Strg Tryz.prog 9 := ⟨Tryz.underlying9⟩
instance : Sc Tryz.prog 22 := ⟨by kernel_rfl, ⟨_, Tryz.underlying22, rfl⟩⟩
instance : Sli Tryz.prog 22 9 := ⟨Tryz.underlying22⟩
instance : Sc Tryz.prog 27 := ⟨by kernel_rfl, ⟨_, Tryz.underlying27, rfl⟩⟩
instance : Sc Tryz.prog 28 := ⟨by kernel_rfl, ⟨_, Tryz.underlying28, rfl⟩⟩
instance : Zc Tryz.prog 28 [.pointer none] := ⟨⟨.pointer none, by kernel_rfl, rfl⟩⟩
instance : Sc Tryz.prog 29 := ⟨by kernel_rfl, ⟨_, Tryz.underlying29, rfl⟩⟩
instance : Sc Tryz.prog 30 := ⟨by kernel_rfl, ⟨_, Tryz.underlying30, rfl⟩⟩
instance : Fi Tryz.prog 32 0 0 27 := ⟨⟨_, _, Tryz.underlying32, rfl, rfl, rfl⟩, ⟨1, by kernel_rfl, by decide⟩⟩
instance : Fi Tryz.prog 32 1 1 28 := ⟨⟨_, _, Tryz.underlying32, rfl, rfl, rfl⟩, ⟨1, by kernel_rfl, by decide⟩⟩
instance : Fi Tryz.prog 32 2 2 29 := ⟨⟨_, _, Tryz.underlying32, rfl, rfl, rfl⟩, ⟨1, by kernel_rfl, by decide⟩⟩
instance : Fi Tryz.prog 32 3 3 30 := ⟨⟨_, _, Tryz.underlying32, rfl, rfl, rfl⟩, ⟨1, by kernel_rfl, by decide⟩⟩
instance : Bd Tryz.prog 32 (fun i : Nat => ([(0, 1), (1, 1), (2, 1), (3, 1)] : List (Nat × Nat))[i]?) (Value.cells (.agg #[.pointer none, .pointer none, .pointer none, .pointer none])) := bd_struct Tryz.underlying32 (by kernel_rfl) (by kernel_rfl)
instance : Sc Tryz.prog 33 := ⟨by kernel_rfl, ⟨_, Tryz.underlying33, rfl⟩⟩
instance : Zc Tryz.prog 33 [.int .i64 0] := ⟨⟨.int .i64 0, by kernel_rfl, rfl⟩⟩
instance : Sc Tryz.prog 39 := ⟨by kernel_rfl, ⟨_, Tryz.underlying39, rfl⟩⟩
instance : Zc Tryz.prog 39 [.slice none 0 0] := ⟨⟨.slice none 0 0, by kernel_rfl, rfl⟩⟩
instance : Sli Tryz.prog 39 5 := ⟨Tryz.underlying39⟩
instance : Fi Tryz.prog 43 0 0 29 := ⟨⟨_, _, Tryz.underlying43, rfl, rfl, rfl⟩, ⟨1, by kernel_rfl, by decide⟩⟩
instance : Fi Tryz.prog 43 1 1 22 := ⟨⟨_, _, Tryz.underlying43, rfl, rfl, rfl⟩, ⟨1, by kernel_rfl, by decide⟩⟩
instance : Fi Tryz.prog 43 2 2 3 := ⟨⟨_, _, Tryz.underlying43, rfl, rfl, rfl⟩, ⟨1, by kernel_rfl, by decide⟩⟩
instance : Fi Tryz.prog 43 3 3 4 := ⟨⟨_, _, Tryz.underlying43, rfl, rfl, rfl⟩, ⟨1, by kernel_rfl, by decide⟩⟩
instance : Bd Tryz.prog 43 (fun i : Nat => ([(0, 1), (1, 1), (2, 1), (3, 1)] : List (Nat × Nat))[i]?) (Value.cells (.agg #[.pointer none, .slice none 0 0, .int .i64 0, .bool false])) := bd_struct Tryz.underlying43 (by kernel_rfl) (by kernel_rfl)
instance : Sli Tryz.prog 56 3 := ⟨Tryz.underlying56⟩
instance : Sc Tryz.prog 65 := ⟨by kernel_rfl, ⟨_, Tryz.underlying65, rfl⟩⟩
instance : Sli Tryz.prog 65 118 := ⟨Tryz.underlying65⟩
instance : Fi Tryz.prog 67 0 0 39 := ⟨⟨_, _, Tryz.underlying67, rfl, rfl, rfl⟩, ⟨1, by kernel_rfl, by decide⟩⟩
instance : Fi Tryz.prog 67 1 1 65 := ⟨⟨_, _, Tryz.underlying67, rfl, rfl, rfl⟩, ⟨1, by kernel_rfl, by decide⟩⟩
instance : Fi Tryz.prog 67 2 2 4 := ⟨⟨_, _, Tryz.underlying67, rfl, rfl, rfl⟩, ⟨1, by kernel_rfl, by decide⟩⟩
instance : Fi Tryz.prog 67 3 3 3 := ⟨⟨_, _, Tryz.underlying67, rfl, rfl, rfl⟩, ⟨1, by kernel_rfl, by decide⟩⟩
instance : Bd Tryz.prog 67 (fun i : Nat => ([(0, 1), (1, 1), (2, 1), (3, 1)] : List (Nat × Nat))[i]?) (Value.cells (.agg #[.slice none 0 0, .slice none 0 0, .bool false, .int .i64 0])) := bd_struct Tryz.underlying67 (by kernel_rfl) (by kernel_rfl)
instance : Ag Tryz.prog 90 3 := ⟨by kernel_rfl, ⟨_, Tryz.underlying90, rfl⟩⟩
instance : Zc Tryz.prog 90 [.slice none 0 0, .string ByteArray.empty, .int .i64 0] := ⟨⟨.agg #[.slice none 0 0, .string ByteArray.empty, .int .i64 0], by kernel_rfl, rfl⟩⟩
instance : Fi Tryz.prog 90 0 0 22 := ⟨⟨_, _, Tryz.underlying90, rfl, rfl, rfl⟩, ⟨1, by kernel_rfl, by decide⟩⟩
instance : Fi Tryz.prog 90 1 1 9 := ⟨⟨_, _, Tryz.underlying90, rfl, rfl, rfl⟩, ⟨1, by kernel_rfl, by decide⟩⟩
instance : Fi Tryz.prog 90 2 2 3 := ⟨⟨_, _, Tryz.underlying90, rfl, rfl, rfl⟩, ⟨1, by kernel_rfl, by decide⟩⟩
instance : Bd Tryz.prog 90 (fun i : Nat => ([(0, 1), (1, 1), (2, 1)] : List (Nat × Nat))[i]?) (Value.cells (.agg #[.slice none 0 0, .string ByteArray.empty, .int .i64 0])) := bd_struct Tryz.underlying90 (by kernel_rfl) (by kernel_rfl)
instance : Fi Tryz.prog 92 0 0 90 := ⟨⟨_, _, Tryz.underlying92, rfl, rfl, rfl⟩, ⟨3, by kernel_rfl, by decide⟩⟩
instance : Fi Tryz.prog 92 1 3 27 := ⟨⟨_, _, Tryz.underlying92, rfl, rfl, rfl⟩, ⟨1, by kernel_rfl, by decide⟩⟩
instance : Fi Tryz.prog 92 2 4 4 := ⟨⟨_, _, Tryz.underlying92, rfl, rfl, rfl⟩, ⟨1, by kernel_rfl, by decide⟩⟩
instance : Bd Tryz.prog 92 (fun i : Nat => ([(0, 3), (3, 1), (4, 1)] : List (Nat × Nat))[i]?) (Value.cells (.agg #[.slice none 0 0, .string ByteArray.empty, .int .i64 0, .pointer none, .bool false])) := bd_struct Tryz.underlying92 (by kernel_rfl) (by kernel_rfl)
instance : Sc Tryz.prog 94 := ⟨by kernel_rfl, ⟨_, Tryz.underlying94, rfl⟩⟩
instance : Zc Tryz.prog 96 [.pointer none, .slice none 0 0] := ⟨⟨.agg #[.pointer none, .slice none 0 0], by kernel_rfl, rfl⟩⟩
instance : Fi Tryz.prog 96 0 0 94 := ⟨⟨_, _, Tryz.underlying96, rfl, rfl, rfl⟩, ⟨1, by kernel_rfl, by decide⟩⟩
instance : Fi Tryz.prog 96 1 1 39 := ⟨⟨_, _, Tryz.underlying96, rfl, rfl, rfl⟩, ⟨1, by kernel_rfl, by decide⟩⟩
instance : Sc Tryz.prog 98 := ⟨by kernel_rfl, ⟨_, Tryz.underlying98, rfl⟩⟩
instance : Sc Tryz.prog 103 := ⟨by kernel_rfl, ⟨_, Tryz.underlying103, rfl⟩⟩
instance : Sz Tryz.prog 103 1 := ⟨by kernel_rfl⟩
instance : Zr Tryz.prog 103 (.nilFunc) := ⟨by kernel_rfl⟩
instance : Ag Tryz.prog 110 2 := ⟨by kernel_rfl, ⟨_, Tryz.underlying110, rfl⟩⟩
instance : Sz Tryz.prog 110 2 := ⟨by kernel_rfl⟩
instance : By Tryz.prog 110 24 := ⟨by kernel_rfl⟩
instance : Zr Tryz.prog 110 (.agg #[.int .i64 0, .string ByteArray.empty]) := ⟨by kernel_rfl⟩
instance : Zc Tryz.prog 110 [.int .i64 0, .string ByteArray.empty] := ⟨⟨.agg #[.int .i64 0, .string ByteArray.empty], by kernel_rfl, rfl⟩⟩
instance : Fi Tryz.prog 110 0 0 3 := ⟨⟨_, _, Tryz.underlying110, rfl, rfl, rfl⟩, ⟨1, by kernel_rfl, by decide⟩⟩
instance : Fi Tryz.prog 110 1 1 9 := ⟨⟨_, _, Tryz.underlying110, rfl, rfl, rfl⟩, ⟨1, by kernel_rfl, by decide⟩⟩
instance : Bd Tryz.prog 110 (fun i : Nat => ([(0, 1), (1, 1)] : List (Nat × Nat))[i]?) (Value.cells (.agg #[.int .i64 0, .string ByteArray.empty])) := bd_struct Tryz.underlying110 (by kernel_rfl) (by kernel_rfl)
instance : Sc Tryz.prog 111 := ⟨by kernel_rfl, ⟨_, Tryz.underlying111, rfl⟩⟩
instance : Sli Tryz.prog 111 110 := ⟨Tryz.underlying111⟩
instance : Fi Tryz.prog 113 0 0 4 := ⟨⟨_, _, Tryz.underlying113, rfl, rfl, rfl⟩, ⟨1, by kernel_rfl, by decide⟩⟩
instance : Fi Tryz.prog 113 1 1 3 := ⟨⟨_, _, Tryz.underlying113, rfl, rfl, rfl⟩, ⟨1, by kernel_rfl, by decide⟩⟩
instance : Fi Tryz.prog 115 0 0 113 := ⟨⟨_, _, Tryz.underlying115, rfl, rfl, rfl⟩, ⟨2, by kernel_rfl, by decide⟩⟩
instance : Fi Tryz.prog 115 1 2 39 := ⟨⟨_, _, Tryz.underlying115, rfl, rfl, rfl⟩, ⟨1, by kernel_rfl, by decide⟩⟩
instance : Fi Tryz.prog 115 2 3 39 := ⟨⟨_, _, Tryz.underlying115, rfl, rfl, rfl⟩, ⟨1, by kernel_rfl, by decide⟩⟩
instance : Fi Tryz.prog 115 3 4 111 := ⟨⟨_, _, Tryz.underlying115, rfl, rfl, rfl⟩, ⟨1, by kernel_rfl, by decide⟩⟩
instance : Bd Tryz.prog 115 (fun i : Nat => ([(0, 2), (2, 1), (3, 1), (4, 1)] : List (Nat × Nat))[i]?) (Value.cells (.agg #[.bool false, .int .i64 0, .slice none 0 0, .slice none 0 0, .slice none 0 0])) := bd_struct Tryz.underlying115 (by kernel_rfl) (by kernel_rfl)
instance : Sz Tryz.prog 118 2 := ⟨by kernel_rfl⟩
instance : By Tryz.prog 118 24 := ⟨by kernel_rfl⟩
instance : Zr Tryz.prog 118 (.agg #[.int .i64 0, .string ByteArray.empty]) := ⟨by kernel_rfl⟩
instance : Fi Tryz.prog 118 0 0 3 := ⟨⟨_, _, Tryz.underlying118, rfl, rfl, rfl⟩, ⟨1, by kernel_rfl, by decide⟩⟩
instance : Fi Tryz.prog 118 1 1 9 := ⟨⟨_, _, Tryz.underlying118, rfl, rfl, rfl⟩, ⟨1, by kernel_rfl, by decide⟩⟩
instance : Bd Tryz.prog 118 (fun i : Nat => ([(0, 1), (1, 1)] : List (Nat × Nat))[i]?) (Value.cells (.agg #[.int .i64 0, .string ByteArray.empty])) := bd_struct Tryz.underlying118 (by kernel_rfl) (by kernel_rfl)
instance : Sc Tryz.prog 126 := ⟨by kernel_rfl, ⟨_, Tryz.underlying126, rfl⟩⟩
instance : Sz Tryz.prog 126 1 := ⟨by kernel_rfl⟩
instance : By Tryz.prog 126 4 := ⟨by kernel_rfl⟩
instance : Zr Tryz.prog 126 (.int .u32 0) := ⟨by kernel_rfl⟩
instance : Ity Tryz.prog 126 .u32 := ⟨Tryz.underlying126⟩
instance : Sli Tryz.prog 127 126 := ⟨Tryz.underlying127⟩
instance : Ity Tryz.prog 130 .u64 := ⟨Tryz.underlying130⟩
instance : Sli Tryz.prog 166 103 := ⟨Tryz.underlying166⟩
instance : Sc Tryz.prog 180 := ⟨by kernel_rfl, ⟨_, Tryz.underlying180, rfl⟩⟩
instance : Ity Tryz.prog 180 .u64 := ⟨Tryz.underlying180⟩
instance : Ag Tryz.prog 278 8 := ⟨by kernel_rfl, ⟨_, Tryz.underlying278, rfl⟩⟩
instance : Zc Tryz.prog 278 [.int .u32 0, .int .u32 0, .int .u32 0, .int .u32 0, .int .u32 0, .int .u32 0, .int .u32 0, .int .u32 0] := ⟨⟨.agg #[.int .u32 0, .int .u32 0, .int .u32 0, .int .u32 0, .int .u32 0, .int .u32 0, .int .u32 0, .int .u32 0], by kernel_rfl, rfl⟩⟩
instance : Arr Tryz.prog 278 8 126 := ⟨Tryz.underlying278⟩
instance : Bd Tryz.prog 278 (fun i => some (i * 1, 1)) (Value.cells (.agg #[.int .u32 0, .int .u32 0, .int .u32 0, .int .u32 0, .int .u32 0, .int .u32 0, .int .u32 0, .int .u32 0])) := bd_array Tryz.underlying278 (by kernel_rfl) (by kernel_rfl)
instance : Ag Tryz.prog 299 64 := ⟨by kernel_rfl, ⟨_, Tryz.underlying299, rfl⟩⟩
instance : Zc Tryz.prog 299 [.int .u32 0, .int .u32 0, .int .u32 0, .int .u32 0, .int .u32 0, .int .u32 0, .int .u32 0, .int .u32 0, .int .u32 0, .int .u32 0, .int .u32 0, .int .u32 0, .int .u32 0, .int .u32 0, .int .u32 0, .int .u32 0, .int .u32 0, .int .u32 0, .int .u32 0, .int .u32 0, .int .u32 0, .int .u32 0, .int .u32 0, .int .u32 0, .int .u32 0, .int .u32 0, .int .u32 0, .int .u32 0, .int .u32 0, .int .u32 0, .int .u32 0, .int .u32 0, .int .u32 0, .int .u32 0, .int .u32 0, .int .u32 0, .int .u32 0, .int .u32 0, .int .u32 0, .int .u32 0, .int .u32 0, .int .u32 0, .int .u32 0, .int .u32 0, .int .u32 0, .int .u32 0, .int .u32 0, .int .u32 0, .int .u32 0, .int .u32 0, .int .u32 0, .int .u32 0, .int .u32 0, .int .u32 0, .int .u32 0, .int .u32 0, .int .u32 0, .int .u32 0, .int .u32 0, .int .u32 0, .int .u32 0, .int .u32 0, .int .u32 0, .int .u32 0] := ⟨⟨.agg #[.int .u32 0, .int .u32 0, .int .u32 0, .int .u32 0, .int .u32 0, .int .u32 0, .int .u32 0, .int .u32 0, .int .u32 0, .int .u32 0, .int .u32 0, .int .u32 0, .int .u32 0, .int .u32 0, .int .u32 0, .int .u32 0, .int .u32 0, .int .u32 0, .int .u32 0, .int .u32 0, .int .u32 0, .int .u32 0, .int .u32 0, .int .u32 0, .int .u32 0, .int .u32 0, .int .u32 0, .int .u32 0, .int .u32 0, .int .u32 0, .int .u32 0, .int .u32 0, .int .u32 0, .int .u32 0, .int .u32 0, .int .u32 0, .int .u32 0, .int .u32 0, .int .u32 0, .int .u32 0, .int .u32 0, .int .u32 0, .int .u32 0, .int .u32 0, .int .u32 0, .int .u32 0, .int .u32 0, .int .u32 0, .int .u32 0, .int .u32 0, .int .u32 0, .int .u32 0, .int .u32 0, .int .u32 0, .int .u32 0, .int .u32 0, .int .u32 0, .int .u32 0, .int .u32 0, .int .u32 0, .int .u32 0, .int .u32 0, .int .u32 0, .int .u32 0], by kernel_rfl, rfl⟩⟩
instance : Arr Tryz.prog 299 64 126 := ⟨Tryz.underlying299⟩
instance : Zc Tryz.prog 302 [.int .u8 0, .int .u8 0, .int .u8 0, .int .u8 0, .int .u8 0, .int .u8 0, .int .u8 0, .int .u8 0, .int .u8 0, .int .u8 0, .int .u8 0, .int .u8 0, .int .u8 0, .int .u8 0, .int .u8 0, .int .u8 0, .int .u8 0, .int .u8 0, .int .u8 0, .int .u8 0, .int .u8 0, .int .u8 0, .int .u8 0, .int .u8 0, .int .u8 0, .int .u8 0, .int .u8 0, .int .u8 0, .int .u8 0, .int .u8 0, .int .u8 0, .int .u8 0] := ⟨⟨.agg #[.int .u8 0, .int .u8 0, .int .u8 0, .int .u8 0, .int .u8 0, .int .u8 0, .int .u8 0, .int .u8 0, .int .u8 0, .int .u8 0, .int .u8 0, .int .u8 0, .int .u8 0, .int .u8 0, .int .u8 0, .int .u8 0, .int .u8 0, .int .u8 0, .int .u8 0, .int .u8 0, .int .u8 0, .int .u8 0, .int .u8 0, .int .u8 0, .int .u8 0, .int .u8 0, .int .u8 0, .int .u8 0, .int .u8 0, .int .u8 0, .int .u8 0, .int .u8 0], by kernel_rfl, rfl⟩⟩
instance : Arr Tryz.prog 302 32 5 := ⟨Tryz.underlying302⟩
instance : Mx Tryz.prog := ⟨by kernel_rfl⟩
instance : Fun Tryz.prog 9 := ⟨fun _ _ => by kernel_rfl⟩
instance : Fun Tryz.prog 10 := ⟨fun _ _ => by kernel_rfl⟩
instance : Fun Tryz.prog 11 := ⟨fun _ _ => by kernel_rfl⟩
instance : Fun Tryz.prog 12 := ⟨fun _ _ => by kernel_rfl⟩
instance : Fun Tryz.prog 13 := ⟨fun _ _ => by kernel_rfl⟩
instance : Fun Tryz.prog 14 := ⟨fun _ _ => by kernel_rfl⟩
instance : Fun Tryz.prog 15 := ⟨fun _ _ => by kernel_rfl⟩
instance : Fun Tryz.prog 16 := ⟨fun _ _ => by kernel_rfl⟩
instance : Fun Tryz.prog 17 := ⟨fun _ _ => by kernel_rfl⟩
instance : Fun Tryz.prog 18 := ⟨fun _ _ => by kernel_rfl⟩
instance : Fun Tryz.prog 19 := ⟨fun _ _ => by kernel_rfl⟩
instance : Fun Tryz.prog 20 := ⟨fun _ _ => by kernel_rfl⟩
instance : Fun Tryz.prog 21 := ⟨fun _ _ => by kernel_rfl⟩
instance : Fun Tryz.prog 22 := ⟨fun _ _ => by kernel_rfl⟩
instance : Fun Tryz.prog 23 := ⟨fun _ _ => by kernel_rfl⟩
instance : Fun Tryz.prog 24 := ⟨fun _ _ => by kernel_rfl⟩
instance : Fun Tryz.prog 25 := ⟨fun _ _ => by kernel_rfl⟩
instance : Fun Tryz.prog 26 := ⟨fun _ _ => by kernel_rfl⟩
instance : Fun Tryz.prog 29 := ⟨fun _ _ => by kernel_rfl⟩
instance : Fun Tryz.prog 41 := ⟨fun _ _ => by kernel_rfl⟩
instance : Fun Tryz.prog 42 := ⟨fun _ _ => by kernel_rfl⟩
instance : Fun Tryz.prog 43 := ⟨fun _ _ => by kernel_rfl⟩
instance : Fun Tryz.prog 44 := ⟨fun _ _ => by kernel_rfl⟩
instance : Fun Tryz.prog 45 := ⟨fun _ _ => by kernel_rfl⟩
instance : Fun Tryz.prog 46 := ⟨fun _ _ => by kernel_rfl⟩
instance : Fun Tryz.prog 47 := ⟨fun _ _ => by kernel_rfl⟩
instance : Fun Tryz.prog 48 := ⟨fun _ _ => by kernel_rfl⟩
instance : Fun Tryz.prog 49 := ⟨fun _ _ => by kernel_rfl⟩
instance : Fun Tryz.prog 50 := ⟨fun _ _ => by kernel_rfl⟩
instance : Fun Tryz.prog 51 := ⟨fun _ _ => by kernel_rfl⟩
instance : Fun Tryz.prog 52 := ⟨fun _ _ => by kernel_rfl⟩
instance : Fun Tryz.prog 53 := ⟨fun _ _ => by kernel_rfl⟩
instance : Fun Tryz.prog 54 := ⟨fun _ _ => by kernel_rfl⟩
instance : Fun Tryz.prog 55 := ⟨fun _ _ => by kernel_rfl⟩
instance : Fun Tryz.prog 56 := ⟨fun _ _ => by kernel_rfl⟩
instance : Fun Tryz.prog 57 := ⟨fun _ _ => by kernel_rfl⟩
instance : Fun Tryz.prog 58 := ⟨fun _ _ => by kernel_rfl⟩
instance : Fun Tryz.prog 59 := ⟨fun _ _ => by kernel_rfl⟩
instance : Fun Tryz.prog 60 := ⟨fun _ _ => by kernel_rfl⟩
instance : Fun Tryz.prog 61 := ⟨fun _ _ => by kernel_rfl⟩
instance : Fun Tryz.prog 62 := ⟨fun _ _ => by kernel_rfl⟩
instance : Fun Tryz.prog 63 := ⟨fun _ _ => by kernel_rfl⟩
instance : Fun Tryz.prog 64 := ⟨fun _ _ => by kernel_rfl⟩
instance : Fun Tryz.prog 65 := ⟨fun _ _ => by kernel_rfl⟩
instance : Fun Tryz.prog 66 := ⟨fun _ _ => by kernel_rfl⟩
instance : Fun Tryz.prog 67 := ⟨fun _ _ => by kernel_rfl⟩
instance : Fun Tryz.prog 73 := ⟨fun _ _ => by kernel_rfl⟩
instance : Fun Tryz.prog 91 := ⟨fun _ _ => by kernel_rfl⟩
instance : Fun Tryz.prog 92 := ⟨fun _ _ => by kernel_rfl⟩
instance : Fun Tryz.prog 93 := ⟨fun _ _ => by kernel_rfl⟩
instance : Fun Tryz.prog 94 := ⟨fun _ _ => by kernel_rfl⟩
instance : Fun Tryz.prog 95 := ⟨fun _ _ => by kernel_rfl⟩
instance : Fun Tryz.prog 96 := ⟨fun _ _ => by kernel_rfl⟩
instance : Fun Tryz.prog 97 := ⟨fun _ _ => by kernel_rfl⟩
instance : Fun Tryz.prog 98 := ⟨fun _ _ => by kernel_rfl⟩
instance : Fun Tryz.prog 99 := ⟨fun _ _ => by kernel_rfl⟩
instance : Fun Tryz.prog 100 := ⟨fun _ _ => by kernel_rfl⟩
instance : Fun Tryz.prog 101 := ⟨fun _ _ => by kernel_rfl⟩
instance : Fun Tryz.prog 109 := ⟨fun _ _ => by kernel_rfl⟩
instance : Fun Tryz.prog 110 := ⟨fun _ _ => by kernel_rfl⟩
instance : Fun Tryz.prog 111 := ⟨fun _ _ => by kernel_rfl⟩
instance : Fun Tryz.prog 124 := ⟨fun _ _ => by kernel_rfl⟩
instance : Fun Tryz.prog 136 := ⟨fun _ _ => by kernel_rfl⟩
instance : Fun Tryz.prog 137 := ⟨fun _ _ => by kernel_rfl⟩
instance : Fun Tryz.prog 139 := ⟨fun _ _ => by kernel_rfl⟩
instance : Fun Tryz.prog 140 := ⟨fun _ _ => by kernel_rfl⟩
instance : Fun Tryz.prog 141 := ⟨fun _ _ => by kernel_rfl⟩
instance : Fun Tryz.prog 151 := ⟨fun _ _ => by kernel_rfl⟩
instance : Fun Tryz.prog 162 := ⟨fun _ _ => by kernel_rfl⟩
instance : Fun Tryz.prog 168 := ⟨fun _ _ => by kernel_rfl⟩
instance : Fun Tryz.prog 169 := ⟨fun _ _ => by kernel_rfl⟩
instance : Fun Tryz.prog 170 := ⟨fun _ _ => by kernel_rfl⟩
instance : Fun Tryz.prog 171 := ⟨fun _ _ => by kernel_rfl⟩
instance : Fun Tryz.prog 187 := ⟨fun _ _ => by kernel_rfl⟩
instance : Fun Tryz.prog 195 := ⟨fun _ _ => by kernel_rfl⟩
instance : Fun Tryz.prog 196 := ⟨fun _ _ => by kernel_rfl⟩
instance : Fun Tryz.prog 197 := ⟨fun _ _ => by kernel_rfl⟩
instance : Fun Tryz.prog 198 := ⟨fun _ _ => by kernel_rfl⟩
instance : Fun Tryz.prog 212 := ⟨fun _ _ => by kernel_rfl⟩
instance : Fun Tryz.prog 213 := ⟨fun _ _ => by kernel_rfl⟩
instance : Fun Tryz.prog 214 := ⟨fun _ _ => by kernel_rfl⟩
instance : Fun Tryz.prog 226 := ⟨fun _ _ => by kernel_rfl⟩
end Go.Proofs.YtnlfohlngapkfaaGreatDoor
