/- Closed facts of the program. -/
import Derived.Test.YthbfdhphnofacabProg
import Derived.Test.YthbfdhphnofacabSx15
namespace Go.Proofs.Ythbfdhphnofacab
open Go.Sx Go.RowKit
theorem sz3 : sizeIs Try.prog 3 = some 1 := by kernel_rfl
theorem sh3 : shp Try.prog 3 = some none := by kernel_rfl
theorem hf79 : HasFn Try.prog 79 := ⟨_, _, Try.func79, rfl, by kernel_rfl⟩
theorem zv115 : zeroV Try.prog 115 = some (.agg #[]) := by kernel_rfl
theorem ze115 : zeroOf Try.prog 115 = some [] := by kernel_rfl
theorem sz115 : sizeIs Try.prog 115 = some 0 := by kernel_rfl
theorem fp115 : fieldPlaces Try.prog 115 = some [] := by kernel_rfl
theorem hf66 : HasFn Try.prog 66 := ⟨_, _, Try.func66, rfl, by kernel_rfl⟩
theorem hmix : Try.prog.follows .mixedOrders = true := by kernel_rfl
theorem hf36 : HasFn Try.prog 36 := ⟨_, _, Try.func36, rfl, by kernel_rfl⟩
theorem hf119 : HasFn Try.prog 119 := ⟨_, _, Try.func119, rfl, by kernel_rfl⟩
theorem hf103 : HasFn Try.prog 103 := ⟨_, _, Try.func103, rfl, by kernel_rfl⟩
theorem hf102 : HasFn Try.prog 102 := ⟨_, _, Try.func102, rfl, by kernel_rfl⟩
theorem sz73 : sizeIs Try.prog 73 = some 2 := by kernel_rfl
theorem ze73 : zeroOf Try.prog 73 = some [.int .i64 0, .bool false] := by kernel_rfl
theorem el73 : elemIs Try.prog 73 2 16 := elemIs_of (by kernel_rfl)
theorem sh73 : shp Try.prog 73 = some (some 2) := by kernel_rfl
theorem fo73_0 : fieldOff Try.prog 73 0 = some 0 := by kernel_rfl
theorem fo122_0 : fieldOff Try.prog 122 0 = some 0 := by kernel_rfl
theorem fo59_1 : fieldOff Try.prog 59 1 = some 1 := by kernel_rfl
theorem fo59_2 : fieldOff Try.prog 59 2 = some 2 := by kernel_rfl
theorem sh57 : shp Try.prog 57 = some none := by kernel_rfl
theorem el3 : elemIs Try.prog 3 1 8 := elemIs_of (by kernel_rfl)
theorem ze3 : zeroOf Try.prog 3 = some [.int .i64 0] := by kernel_rfl
theorem fo59_0 : fieldOff Try.prog 59 0 = some 0 := by kernel_rfl
theorem hf63 : HasFn Try.prog 63 := ⟨_, _, Try.func63, rfl, by kernel_rfl⟩
theorem hf85 : HasFn Try.prog 85 := ⟨_, _, Try.func85, rfl, by kernel_rfl⟩
theorem hf84 : HasFn Try.prog 84 := ⟨_, _, Try.func84, rfl, by kernel_rfl⟩
theorem hf105 : HasFn Try.prog 105 := ⟨_, _, Try.func105, rfl, by kernel_rfl⟩
theorem sz57 : sizeIs Try.prog 57 = some 1 := by kernel_rfl
theorem sh59 : shp Try.prog 59 = some (some 3) := by kernel_rfl
theorem fp122 : fieldPlaces Try.prog 122 = some [(0, 3)] := by kernel_rfl
theorem ze122 : zeroOf Try.prog 122 = some [.int .i64 0, .int .i64 0, .slice none 0 0] := by kernel_rfl
theorem hf107 : HasFn Try.prog 107 := ⟨_, _, Try.func107, rfl, by kernel_rfl⟩
theorem hf106 : HasFn Try.prog 106 := ⟨_, _, Try.func106, rfl, by kernel_rfl⟩
theorem fo73_1 : fieldOff Try.prog 73 1 = some 1 := by kernel_rfl
theorem sz4 : sizeIs Try.prog 4 = some 1 := by kernel_rfl
theorem fp73 : fieldPlaces Try.prog 73 = some [(0, 1), (1, 1)] := by kernel_rfl
theorem sh4 : shp Try.prog 4 = some none := by kernel_rfl
theorem hf108 : HasFn Try.prog 108 := ⟨_, _, Try.func108, rfl, by kernel_rfl⟩
theorem ze59 : zeroOf Try.prog 59 = some [.int .i64 0, .int .i64 0, .slice none 0 0] := by kernel_rfl
theorem hf45 : HasFn Try.prog 45 := ⟨_, _, Try.func45, rfl, by kernel_rfl⟩
theorem fp59 : fieldPlaces Try.prog 59 = some [(0, 1), (1, 1), (2, 1)] := by kernel_rfl
theorem sz59 : sizeIs Try.prog 59 = some 3 := by kernel_rfl
theorem hf80 : HasFn Try.prog 80 := ⟨_, _, Try.func80, rfl, by kernel_rfl⟩
theorem hf81 : HasFn Try.prog 81 := ⟨_, _, Try.func81, rfl, by kernel_rfl⟩
theorem hf62 : HasFn Try.prog 62 := ⟨_, _, Try.func62, rfl, by kernel_rfl⟩
theorem hf83 : HasFn Try.prog 83 := ⟨_, _, Try.func83, rfl, by kernel_rfl⟩
theorem hf82 : HasFn Try.prog 82 := ⟨_, _, Try.func82, rfl, by kernel_rfl⟩
theorem hf43 : HasFn Try.prog 43 := ⟨_, _, Try.func43, rfl, by kernel_rfl⟩
theorem hf41 : HasFn Try.prog 41 := ⟨_, _, Try.func41, rfl, by kernel_rfl⟩
theorem eqS73 {x0 y0 : Int} {x1 y1 : Bool} : EqS Try.prog 73 [.int .i64 x0, .bool x1] [.int .i64 y0, .bool y1] ((x0 == y0) && (x1 == y1)) := EqS.mk' (by kernel_rfl) Try.underlying73 (by kernel_rfl) (FE.int (by decide) Try.underlying3 rfl rfl (FE.bool1 (by decide) Try.underlying4 rfl rfl))
theorem hf38 : HasFn Try.prog 38 := ⟨_, _, Try.func38, rfl, by kernel_rfl⟩
theorem hf37 : HasFn Try.prog 37 := ⟨_, _, Try.func37, rfl, by kernel_rfl⟩
theorem hf39 : HasFn Try.prog 39 := ⟨_, _, Try.func39, rfl, by kernel_rfl⟩
theorem hf46 : HasFn Try.prog 46 := ⟨_, _, Try.func46, rfl, by kernel_rfl⟩
theorem hf40 : HasFn Try.prog 40 := ⟨_, _, Try.func40, rfl, by kernel_rfl⟩
theorem hf18 : HasFn Try.prog 18 := ⟨_, _, Try.func18, rfl, by kernel_rfl⟩
theorem hf42 : HasFn Try.prog 42 := ⟨_, _, Try.func42, rfl, by kernel_rfl⟩
theorem hf44 : HasFn Try.prog 44 := ⟨_, _, Try.func44, rfl, by kernel_rfl⟩
end Go.Proofs.Ythbfdhphnofacab
