/- Closed facts of the program. -/
import Derived.Test.YtnmbkopnopaigaaProg
import Derived.Test.YtnmbkopnopaigaaSx32
namespace Go.Proofs.Ytnmbkopnopaigaa
open Go.Sx Go.RowKit
theorem hf136 : HasFn Try.prog 136 := ⟨_, _, Try.func136, rfl, by kernel_rfl⟩
theorem hf94 : HasFn Try.prog 94 := ⟨_, _, Try.func94, rfl, by kernel_rfl⟩
theorem hf137 : HasFn Try.prog 137 := ⟨_, _, Try.func137, rfl, by kernel_rfl⟩
theorem sz3 : sizeIs Try.prog 3 = some 1 := by kernel_rfl
theorem sh3 : shp Try.prog 3 = some none := by kernel_rfl
theorem hf139 : HasFn Try.prog 139 := ⟨_, _, Try.func139, rfl, by kernel_rfl⟩
theorem hf104 : HasFn Try.prog 104 := ⟨_, _, Try.func104, rfl, by kernel_rfl⟩
theorem hf103 : HasFn Try.prog 103 := ⟨_, _, Try.func103, rfl, by kernel_rfl⟩
theorem hmix : Try.prog.follows .mixedOrders = true := by kernel_rfl
theorem hf58 : HasFn Try.prog 58 := ⟨_, _, Try.func58, rfl, by kernel_rfl⟩
theorem sh22 : shp Try.prog 22 = some none := by kernel_rfl
theorem sz37 : sizeIs Try.prog 37 = some 1 := by kernel_rfl
theorem sh37 : shp Try.prog 37 = some none := by kernel_rfl
theorem hf100 : HasFn Try.prog 100 := ⟨_, _, Try.func100, rfl, by kernel_rfl⟩
theorem hf138 : HasFn Try.prog 138 := ⟨_, _, Try.func138, rfl, by kernel_rfl⟩
theorem hf99 : HasFn Try.prog 99 := ⟨_, _, Try.func99, rfl, by kernel_rfl⟩
theorem fo24_1 : fieldOff Try.prog 24 1 = some 1 := by kernel_rfl
theorem fo24_0 : fieldOff Try.prog 24 0 = some 0 := by kernel_rfl
theorem hf63 : HasFn Try.prog 63 := ⟨_, _, Try.func63, rfl, by kernel_rfl⟩
theorem hf57 : HasFn Try.prog 57 := ⟨_, _, Try.func57, rfl, by kernel_rfl⟩
theorem sh24 : shp Try.prog 24 = some (some 2) := by kernel_rfl
theorem hf26 : HasFn Try.prog 26 := ⟨_, _, Try.func26, rfl, by kernel_rfl⟩
theorem hf97 : HasFn Try.prog 97 := ⟨_, _, Try.func97, rfl, by kernel_rfl⟩
theorem hf98 : HasFn Try.prog 98 := ⟨_, _, Try.func98, rfl, by kernel_rfl⟩
theorem ze3 : zeroOf Try.prog 3 = some [.int .i64 0] := by kernel_rfl
theorem el3 : elemIs Try.prog 3 1 8 := elemIs_of (by kernel_rfl)
theorem ze24 : zeroOf Try.prog 24 = some [.int .i64 0, .slice none 0 0] := by kernel_rfl
theorem fp24 : fieldPlaces Try.prog 24 = some [(0, 1), (1, 1)] := by kernel_rfl
theorem sz24 : sizeIs Try.prog 24 = some 2 := by kernel_rfl
theorem hf95 : HasFn Try.prog 95 := ⟨_, _, Try.func95, rfl, by kernel_rfl⟩
theorem hf96 : HasFn Try.prog 96 := ⟨_, _, Try.func96, rfl, by kernel_rfl⟩
theorem ze37 : zeroOf Try.prog 37 = some [.slice none 0 0] := by kernel_rfl
theorem el37 : elemIs Try.prog 37 1 24 := elemIs_of (by kernel_rfl)
theorem sz22 : sizeIs Try.prog 22 = some 1 := by kernel_rfl
theorem sh9 : shp Try.prog 9 = some none := by kernel_rfl
theorem hf54 : HasFn Try.prog 54 := ⟨_, _, Try.func54, rfl, by kernel_rfl⟩
theorem hf51 : HasFn Try.prog 51 := ⟨_, _, Try.func51, rfl, by kernel_rfl⟩
theorem hf53 : HasFn Try.prog 53 := ⟨_, _, Try.func53, rfl, by kernel_rfl⟩
theorem hf52 : HasFn Try.prog 52 := ⟨_, _, Try.func52, rfl, by kernel_rfl⟩
theorem hf55 : HasFn Try.prog 55 := ⟨_, _, Try.func55, rfl, by kernel_rfl⟩
theorem hf56 : HasFn Try.prog 56 := ⟨_, _, Try.func56, rfl, by kernel_rfl⟩
theorem hf102 : HasFn Try.prog 102 := ⟨_, _, Try.func102, rfl, by kernel_rfl⟩
theorem hf101 : HasFn Try.prog 101 := ⟨_, _, Try.func101, rfl, by kernel_rfl⟩
theorem hf23 : HasFn Try.prog 23 := ⟨_, _, Try.func23, rfl, by kernel_rfl⟩
theorem hf59 : HasFn Try.prog 59 := ⟨_, _, Try.func59, rfl, by kernel_rfl⟩
theorem hf24 : HasFn Try.prog 24 := ⟨_, _, Try.func24, rfl, by kernel_rfl⟩
theorem hf18 : HasFn Try.prog 18 := ⟨_, _, Try.func18, rfl, by kernel_rfl⟩
theorem hf62 : HasFn Try.prog 62 := ⟨_, _, Try.func62, rfl, by kernel_rfl⟩
theorem hf61 : HasFn Try.prog 61 := ⟨_, _, Try.func61, rfl, by kernel_rfl⟩
theorem hf60 : HasFn Try.prog 60 := ⟨_, _, Try.func60, rfl, by kernel_rfl⟩
theorem hf64 : HasFn Try.prog 64 := ⟨_, _, Try.func64, rfl, by kernel_rfl⟩
theorem hf28 : HasFn Try.prog 28 := ⟨_, _, Try.func28, rfl, by kernel_rfl⟩
theorem hf13 : HasFn Try.prog 13 := ⟨_, _, Try.func13, rfl, by kernel_rfl⟩
theorem hf14 : HasFn Try.prog 14 := ⟨_, _, Try.func14, rfl, by kernel_rfl⟩
theorem hf15 : HasFn Try.prog 15 := ⟨_, _, Try.func15, rfl, by kernel_rfl⟩
theorem hf17 : HasFn Try.prog 17 := ⟨_, _, Try.func17, rfl, by kernel_rfl⟩
theorem hf16 : HasFn Try.prog 16 := ⟨_, _, Try.func16, rfl, by kernel_rfl⟩
theorem hf27 : HasFn Try.prog 27 := ⟨_, _, Try.func27, rfl, by kernel_rfl⟩
theorem hf25 : HasFn Try.prog 25 := ⟨_, _, Try.func25, rfl, by kernel_rfl⟩
theorem sz9 : sizeIs Try.prog 9 = some 1 := by kernel_rfl
theorem hf19 : HasFn Try.prog 19 := ⟨_, _, Try.func19, rfl, by kernel_rfl⟩
theorem hf20 : HasFn Try.prog 20 := ⟨_, _, Try.func20, rfl, by kernel_rfl⟩
theorem hf21 : HasFn Try.prog 21 := ⟨_, _, Try.func21, rfl, by kernel_rfl⟩
theorem hf22 : HasFn Try.prog 22 := ⟨_, _, Try.func22, rfl, by kernel_rfl⟩
end Go.Proofs.Ytnmbkopnopaigaa
