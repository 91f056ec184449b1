/- Closed facts of the program. -/
import Derived.Test.YthbfdhphnofacabProg
import Derived.Test.YthbfdhphnofacabSx17
namespace Go.Proofs.Ythbfdhphnofacab
open Go.Sx Go.RowKit
theorem sz3 : sizeIs Try.prog 3 = some 1 := by kernel_rfl
theorem ze3 : zeroOf Try.prog 3 = some [.int .i64 0] := by kernel_rfl
theorem el3 : elemIs Try.prog 3 1 8 := elemIs_of (by kernel_rfl)
theorem sh3 : shp Try.prog 3 = some none := by kernel_rfl
theorem hmix : Try.prog.follows .mixedOrders = true := by kernel_rfl
theorem hf119 : HasFn Try.prog 119 := ⟨_, _, Try.func119, rfl, by kernel_rfl⟩
theorem sz73 : sizeIs Try.prog 73 = some 2 := by kernel_rfl
theorem ze73 : zeroOf Try.prog 73 = some [.int .i64 0, .bool false] := by kernel_rfl
theorem el73 : elemIs Try.prog 73 2 16 := elemIs_of (by kernel_rfl)
theorem sh73 : shp Try.prog 73 = some (some 2) := by kernel_rfl
theorem hf79 : HasFn Try.prog 79 := ⟨_, _, Try.func79, rfl, by kernel_rfl⟩
theorem zv115 : zeroV Try.prog 115 = some (.agg #[]) := by kernel_rfl
theorem ze115 : zeroOf Try.prog 115 = some [] := by kernel_rfl
theorem sz115 : sizeIs Try.prog 115 = some 0 := by kernel_rfl
theorem fp115 : fieldPlaces Try.prog 115 = some [] := by kernel_rfl
theorem hf103 : HasFn Try.prog 103 := ⟨_, _, Try.func103, rfl, by kernel_rfl⟩
theorem hf102 : HasFn Try.prog 102 := ⟨_, _, Try.func102, rfl, by kernel_rfl⟩
theorem fo95_0 : fieldOff Try.prog 95 0 = some 0 := by kernel_rfl
theorem hf63 : HasFn Try.prog 63 := ⟨_, _, Try.func63, rfl, by kernel_rfl⟩
theorem fo95_1 : fieldOff Try.prog 95 1 = some 1 := by kernel_rfl
theorem sh22 : shp Try.prog 22 = some none := by kernel_rfl
theorem hf84 : HasFn Try.prog 84 := ⟨_, _, Try.func84, rfl, by kernel_rfl⟩
theorem hf115 : HasFn Try.prog 115 := ⟨_, _, Try.func115, rfl, by kernel_rfl⟩
theorem fp95 : fieldPlaces Try.prog 95 = some [(0, 1), (1, 1)] := by kernel_rfl
theorem ze95 : zeroOf Try.prog 95 = some [.int .i64 0, .slice none 0 0] := by kernel_rfl
theorem fp142 : fieldPlaces Try.prog 142 = some [(0, 2)] := by kernel_rfl
theorem ze142 : zeroOf Try.prog 142 = some [.int .i64 0, .slice none 0 0] := by kernel_rfl
theorem fo142_0 : fieldOff Try.prog 142 0 = some 0 := by kernel_rfl
theorem hf116 : HasFn Try.prog 116 := ⟨_, _, Try.func116, rfl, by kernel_rfl⟩
theorem hf117 : HasFn Try.prog 117 := ⟨_, _, Try.func117, rfl, by kernel_rfl⟩
theorem sz22 : sizeIs Try.prog 22 = some 1 := by kernel_rfl
theorem hf118 : HasFn Try.prog 118 := ⟨_, _, Try.func118, rfl, by kernel_rfl⟩
theorem sh95 : shp Try.prog 95 = some (some 2) := by kernel_rfl
theorem hf99 : HasFn Try.prog 99 := ⟨_, _, Try.func99, rfl, by kernel_rfl⟩
theorem sz95 : sizeIs Try.prog 95 = some 2 := by kernel_rfl
theorem hf100 : HasFn Try.prog 100 := ⟨_, _, Try.func100, rfl, by kernel_rfl⟩
theorem hf101 : HasFn Try.prog 101 := ⟨_, _, Try.func101, rfl, by kernel_rfl⟩
theorem hf62 : HasFn Try.prog 62 := ⟨_, _, Try.func62, rfl, by kernel_rfl⟩
theorem fo73_0 : fieldOff Try.prog 73 0 = some 0 := by kernel_rfl
theorem fo122_0 : fieldOff Try.prog 122 0 = some 0 := by kernel_rfl
theorem fo59_1 : fieldOff Try.prog 59 1 = some 1 := by kernel_rfl
theorem fo59_2 : fieldOff Try.prog 59 2 = some 2 := by kernel_rfl
theorem sh57 : shp Try.prog 57 = some none := by kernel_rfl
theorem fo59_0 : fieldOff Try.prog 59 0 = some 0 := by kernel_rfl
theorem hf85 : HasFn Try.prog 85 := ⟨_, _, Try.func85, rfl, by kernel_rfl⟩
theorem hf105 : HasFn Try.prog 105 := ⟨_, _, Try.func105, rfl, by kernel_rfl⟩
theorem sz57 : sizeIs Try.prog 57 = some 1 := by kernel_rfl
theorem sh59 : shp Try.prog 59 = some (some 3) := by kernel_rfl
theorem fp122 : fieldPlaces Try.prog 122 = some [(0, 3)] := by kernel_rfl
theorem ze122 : zeroOf Try.prog 122 = some [.int .i64 0, .int .i64 0, .slice none 0 0] := by kernel_rfl
theorem hf107 : HasFn Try.prog 107 := ⟨_, _, Try.func107, rfl, by kernel_rfl⟩
theorem hf106 : HasFn Try.prog 106 := ⟨_, _, Try.func106, rfl, by kernel_rfl⟩
theorem fo73_1 : fieldOff Try.prog 73 1 = some 1 := by kernel_rfl
theorem sz4 : sizeIs Try.prog 4 = some 1 := by kernel_rfl
theorem fp73 : fieldPlaces Try.prog 73 = some [(0, 1), (1, 1)] := by kernel_rfl
theorem sh4 : shp Try.prog 4 = some none := by kernel_rfl
theorem hf108 : HasFn Try.prog 108 := ⟨_, _, Try.func108, rfl, by kernel_rfl⟩
theorem ze59 : zeroOf Try.prog 59 = some [.int .i64 0, .int .i64 0, .slice none 0 0] := by kernel_rfl
theorem hf45 : HasFn Try.prog 45 := ⟨_, _, Try.func45, rfl, by kernel_rfl⟩
theorem fp59 : fieldPlaces Try.prog 59 = some [(0, 1), (1, 1), (2, 1)] := by kernel_rfl
theorem sz59 : sizeIs Try.prog 59 = some 3 := by kernel_rfl
theorem hf80 : HasFn Try.prog 80 := ⟨_, _, Try.func80, rfl, by kernel_rfl⟩
theorem hf81 : HasFn Try.prog 81 := ⟨_, _, Try.func81, rfl, by kernel_rfl⟩
theorem hf97 : HasFn Try.prog 97 := ⟨_, _, Try.func97, rfl, by kernel_rfl⟩
theorem hf98 : HasFn Try.prog 98 := ⟨_, _, Try.func98, rfl, by kernel_rfl⟩
theorem hf59 : HasFn Try.prog 59 := ⟨_, _, Try.func59, rfl, by kernel_rfl⟩
theorem hf60 : HasFn Try.prog 60 := ⟨_, _, Try.func60, rfl, by kernel_rfl⟩
theorem hf37 : HasFn Try.prog 37 := ⟨_, _, Try.func37, rfl, by kernel_rfl⟩
theorem hf61 : HasFn Try.prog 61 := ⟨_, _, Try.func61, rfl, by kernel_rfl⟩
end Go.Proofs.Ythbfdhphnofacab
