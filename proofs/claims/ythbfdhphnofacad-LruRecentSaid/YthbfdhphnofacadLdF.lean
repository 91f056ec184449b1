/- Closed facts of the program. -/
import Derived.Test.YthbfdhphnofacadProg
import Derived.Test.YthbfdhphnofacadSx17
namespace Go.Proofs.Ythbfdhphnofacad
open Go.Sx Go.RowKit
theorem sz3 : sizeIs Try.prog 3 = some 1 := by kernel_rfl
theorem ze3 : zeroOf Try.prog 3 = some [.int .i64 0] := by kernel_rfl
theorem el3 : elemIs Try.prog 3 1 8 := elemIs_of (by kernel_rfl)
theorem sh3 : shp Try.prog 3 = some none := by kernel_rfl
theorem hmix : Try.prog.follows .mixedOrders = true := by kernel_rfl
theorem hf121 : HasFn Try.prog 121 := ⟨_, _, Try.func121, rfl, by kernel_rfl⟩
theorem hf60 : HasFn Try.prog 60 := ⟨_, _, Try.func60, rfl, by kernel_rfl⟩
theorem zv148 : zeroV Try.prog 148 = some (.agg #[]) := by kernel_rfl
theorem ze148 : zeroOf Try.prog 148 = some [] := by kernel_rfl
theorem sz148 : sizeIs Try.prog 148 = some 0 := by kernel_rfl
theorem fp148 : fieldPlaces Try.prog 148 = some [] := by kernel_rfl
theorem hf92 : HasFn Try.prog 92 := ⟨_, _, Try.func92, rfl, by kernel_rfl⟩
theorem hf91 : HasFn Try.prog 91 := ⟨_, _, Try.func91, rfl, by kernel_rfl⟩
theorem fo24_0 : fieldOff Try.prog 24 0 = some 0 := by kernel_rfl
theorem hf61 : HasFn Try.prog 61 := ⟨_, _, Try.func61, rfl, by kernel_rfl⟩
theorem fo24_1 : fieldOff Try.prog 24 1 = some 1 := by kernel_rfl
theorem sh22 : shp Try.prog 22 = some none := by kernel_rfl
theorem hf88 : HasFn Try.prog 88 := ⟨_, _, Try.func88, rfl, by kernel_rfl⟩
theorem hf62 : HasFn Try.prog 62 := ⟨_, _, Try.func62, rfl, by kernel_rfl⟩
theorem fp24 : fieldPlaces Try.prog 24 = some [(0, 1), (1, 1)] := by kernel_rfl
theorem ze24 : zeroOf Try.prog 24 = some [.int .i64 0, .slice none 0 0] := by kernel_rfl
theorem fp107 : fieldPlaces Try.prog 107 = some [(0, 2)] := by kernel_rfl
theorem ze107 : zeroOf Try.prog 107 = some [.int .i64 0, .slice none 0 0] := by kernel_rfl
theorem fo107_0 : fieldOff Try.prog 107 0 = some 0 := by kernel_rfl
theorem hf93 : HasFn Try.prog 93 := ⟨_, _, Try.func93, rfl, by kernel_rfl⟩
theorem hf94 : HasFn Try.prog 94 := ⟨_, _, Try.func94, rfl, by kernel_rfl⟩
theorem sz22 : sizeIs Try.prog 22 = some 1 := by kernel_rfl
theorem hf95 : HasFn Try.prog 95 := ⟨_, _, Try.func95, rfl, by kernel_rfl⟩
theorem sh24 : shp Try.prog 24 = some (some 2) := by kernel_rfl
theorem hf55 : HasFn Try.prog 55 := ⟨_, _, Try.func55, rfl, by kernel_rfl⟩
theorem sz24 : sizeIs Try.prog 24 = some 2 := by kernel_rfl
theorem hf57 : HasFn Try.prog 57 := ⟨_, _, Try.func57, rfl, by kernel_rfl⟩
theorem hf58 : HasFn Try.prog 58 := ⟨_, _, Try.func58, rfl, by kernel_rfl⟩
theorem hf56 : HasFn Try.prog 56 := ⟨_, _, Try.func56, rfl, by kernel_rfl⟩
theorem hf63 : HasFn Try.prog 63 := ⟨_, _, Try.func63, rfl, by kernel_rfl⟩
theorem hf17 : HasFn Try.prog 17 := ⟨_, _, Try.func17, rfl, by kernel_rfl⟩
theorem hf59 : HasFn Try.prog 59 := ⟨_, _, Try.func59, rfl, by kernel_rfl⟩
theorem hf15 : HasFn Try.prog 15 := ⟨_, _, Try.func15, rfl, by kernel_rfl⟩
theorem hf20 : HasFn Try.prog 20 := ⟨_, _, Try.func20, rfl, by kernel_rfl⟩
theorem hf21 : HasFn Try.prog 21 := ⟨_, _, Try.func21, rfl, by kernel_rfl⟩
theorem hf16 : HasFn Try.prog 16 := ⟨_, _, Try.func16, rfl, by kernel_rfl⟩
theorem hf18 : HasFn Try.prog 18 := ⟨_, _, Try.func18, rfl, by kernel_rfl⟩
theorem hf19 : HasFn Try.prog 19 := ⟨_, _, Try.func19, rfl, by kernel_rfl⟩
end Go.Proofs.Ythbfdhphnofacad
