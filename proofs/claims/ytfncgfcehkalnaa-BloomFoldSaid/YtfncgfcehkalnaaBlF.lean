/- Closed facts of the program. -/
import Derived.Test.YtfncgfcehkalnaaProg
import Derived.Test.YtfncgfcehkalnaaSx28
namespace Go.Proofs.Ytfncgfcehkalnaa
open Go.Sx Go.RowKit
theorem hf84 : HasFn Try.prog 84 := ⟨_, _, Try.func84, rfl, by kernel_rfl⟩
theorem hf52 : HasFn Try.prog 52 := ⟨_, _, Try.func52, rfl, by kernel_rfl⟩
theorem hf85 : HasFn Try.prog 85 := ⟨_, _, Try.func85, rfl, by kernel_rfl⟩
theorem sz3 : sizeIs Try.prog 3 = some 1 := by kernel_rfl
theorem sh3 : shp Try.prog 3 = some none := by kernel_rfl
theorem hf56 : HasFn Try.prog 56 := ⟨_, _, Try.func56, rfl, by kernel_rfl⟩
theorem el3 : elemIs Try.prog 3 1 8 := elemIs_of (by kernel_rfl)
theorem ze3 : zeroOf Try.prog 3 = some [.int .i64 0] := by kernel_rfl
theorem sz22 : sizeIs Try.prog 22 = some 1 := by kernel_rfl
theorem sh22 : shp Try.prog 22 = some none := by kernel_rfl
theorem hf86 : HasFn Try.prog 86 := ⟨_, _, Try.func86, rfl, by kernel_rfl⟩
theorem hf59 : HasFn Try.prog 59 := ⟨_, _, Try.func59, rfl, by kernel_rfl⟩
theorem hf60 : HasFn Try.prog 60 := ⟨_, _, Try.func60, rfl, by kernel_rfl⟩
theorem fo24_0 : fieldOff Try.prog 24 0 = some 0 := by kernel_rfl
theorem fo24_1 : fieldOff Try.prog 24 1 = some 1 := by kernel_rfl
theorem fo24_2 : fieldOff Try.prog 24 2 = some 2 := by kernel_rfl
theorem hf53 : HasFn Try.prog 53 := ⟨_, _, Try.func53, rfl, by kernel_rfl⟩
theorem hf54 : HasFn Try.prog 54 := ⟨_, _, Try.func54, rfl, by kernel_rfl⟩
theorem hf36 : HasFn Try.prog 36 := ⟨_, _, Try.func36, rfl, by kernel_rfl⟩
theorem sh24 : shp Try.prog 24 = some (some 3) := by kernel_rfl
theorem hf21 : HasFn Try.prog 21 := ⟨_, _, Try.func21, rfl, by kernel_rfl⟩
theorem hf30 : HasFn Try.prog 30 := ⟨_, _, Try.func30, rfl, by kernel_rfl⟩
theorem hf31 : HasFn Try.prog 31 := ⟨_, _, Try.func31, rfl, by kernel_rfl⟩
theorem ze24 : zeroOf Try.prog 24 = some [.int .i64 0, .int .i64 0, .slice none 0 0] := by kernel_rfl
theorem ze22 : zeroOf Try.prog 22 = some [.slice none 0 0] := by kernel_rfl
theorem hf55 : HasFn Try.prog 55 := ⟨_, _, Try.func55, rfl, by kernel_rfl⟩
theorem sz24 : sizeIs Try.prog 24 = some 3 := by kernel_rfl
theorem fp24 : fieldPlaces Try.prog 24 = some [(0, 1), (1, 1), (2, 1)] := by kernel_rfl
theorem hf32 : HasFn Try.prog 32 := ⟨_, _, Try.func32, rfl, by kernel_rfl⟩
theorem hmix : Try.prog.follows .mixedOrders = true := by kernel_rfl
theorem hf74 : HasFn Try.prog 74 := ⟨_, _, Try.func74, rfl, by kernel_rfl⟩
theorem hf57 : HasFn Try.prog 57 := ⟨_, _, Try.func57, rfl, by kernel_rfl⟩
theorem hf58 : HasFn Try.prog 58 := ⟨_, _, Try.func58, rfl, by kernel_rfl⟩
theorem hf35 : HasFn Try.prog 35 := ⟨_, _, Try.func35, rfl, by kernel_rfl⟩
theorem hf34 : HasFn Try.prog 34 := ⟨_, _, Try.func34, rfl, by kernel_rfl⟩
theorem hf33 : HasFn Try.prog 33 := ⟨_, _, Try.func33, rfl, by kernel_rfl⟩
theorem hf90 : HasFn Try.prog 90 := ⟨_, _, Try.func90, rfl, by kernel_rfl⟩
theorem hf89 : HasFn Try.prog 89 := ⟨_, _, Try.func89, rfl, by kernel_rfl⟩
theorem hf37 : HasFn Try.prog 37 := ⟨_, _, Try.func37, rfl, by kernel_rfl⟩
theorem hf63 : HasFn Try.prog 63 := ⟨_, _, Try.func63, rfl, by kernel_rfl⟩
theorem hf62 : HasFn Try.prog 62 := ⟨_, _, Try.func62, rfl, by kernel_rfl⟩
theorem hf61 : HasFn Try.prog 61 := ⟨_, _, Try.func61, rfl, by kernel_rfl⟩
theorem hf38 : HasFn Try.prog 38 := ⟨_, _, Try.func38, rfl, by kernel_rfl⟩
theorem hf26 : HasFn Try.prog 26 := ⟨_, _, Try.func26, rfl, by kernel_rfl⟩
theorem hf18 : HasFn Try.prog 18 := ⟨_, _, Try.func18, rfl, by kernel_rfl⟩
theorem hf11 : HasFn Try.prog 11 := ⟨_, _, Try.func11, rfl, by kernel_rfl⟩
theorem hf12 : HasFn Try.prog 12 := ⟨_, _, Try.func12, rfl, by kernel_rfl⟩
theorem hf10 : HasFn Try.prog 10 := ⟨_, _, Try.func10, rfl, by kernel_rfl⟩
theorem hf13 : HasFn Try.prog 13 := ⟨_, _, Try.func13, rfl, by kernel_rfl⟩
theorem hf14 : HasFn Try.prog 14 := ⟨_, _, Try.func14, rfl, by kernel_rfl⟩
theorem hf22 : HasFn Try.prog 22 := ⟨_, _, Try.func22, rfl, by kernel_rfl⟩
theorem hf15 : HasFn Try.prog 15 := ⟨_, _, Try.func15, rfl, by kernel_rfl⟩
theorem hf19 : HasFn Try.prog 19 := ⟨_, _, Try.func19, rfl, by kernel_rfl⟩
theorem hf17 : HasFn Try.prog 17 := ⟨_, _, Try.func17, rfl, by kernel_rfl⟩
theorem hf16 : HasFn Try.prog 16 := ⟨_, _, Try.func16, rfl, by kernel_rfl⟩
theorem hf20 : HasFn Try.prog 20 := ⟨_, _, Try.func20, rfl, by kernel_rfl⟩
theorem sz9 : sizeIs Try.prog 9 = some 1 := by kernel_rfl
theorem sh9 : shp Try.prog 9 = some none := by kernel_rfl
end Go.Proofs.Ytfncgfcehkalnaa
