/- Closed facts of the program. -/
import Derived.Test.YtfncgfcehkalnaaProg
import Derived.Test.YtfncgfcehkalnaaSx12M16
namespace Go.Proofs.Ytfncgfcehkalnaa
open Go.Sx Go.RowKit
theorem hf84 : HasFn Try.prog 84 := ⟨_, _, Try.func84, rfl, by kernel_rfl⟩
theorem hf52 : HasFn Try.prog 52 := ⟨_, _, Try.func52, rfl, by kernel_rfl⟩
theorem hf85 : HasFn Try.prog 85 := ⟨_, _, Try.func85, rfl, by kernel_rfl⟩
theorem sz3 : sizeIs Try.prog 3 = some 1 := by kernel_rfl
theorem sh3 : shp Try.prog 3 = some none := by kernel_rfl
theorem hf56 : HasFn Try.prog 56 := ⟨_, _, Try.func56, rfl, by kernel_rfl⟩
theorem el3 : elemIs Try.prog 3 1 8 := elemIs_of (by kernel_rfl)
theorem ze3 : zeroOf Try.prog 3 = some [.int .i64 0] := by kernel_rfl
theorem sz22 : sizeIs Try.prog 22 = some 1 := by kernel_rfl
theorem sh22 : shp Try.prog 22 = some none := by kernel_rfl
theorem hf86 : HasFn Try.prog 86 := ⟨_, _, Try.func86, rfl, by kernel_rfl⟩
theorem hf59 : HasFn Try.prog 59 := ⟨_, _, Try.func59, rfl, by kernel_rfl⟩
theorem hf60 : HasFn Try.prog 60 := ⟨_, _, Try.func60, rfl, by kernel_rfl⟩
theorem fo24_0 : fieldOff Try.prog 24 0 = some 0 := by kernel_rfl
theorem fo24_1 : fieldOff Try.prog 24 1 = some 1 := by kernel_rfl
theorem fo24_2 : fieldOff Try.prog 24 2 = some 2 := by kernel_rfl
theorem hf53 : HasFn Try.prog 53 := ⟨_, _, Try.func53, rfl, by kernel_rfl⟩
theorem hf54 : HasFn Try.prog 54 := ⟨_, _, Try.func54, rfl, by kernel_rfl⟩
theorem hf36 : HasFn Try.prog 36 := ⟨_, _, Try.func36, rfl, by kernel_rfl⟩
theorem sh24 : shp Try.prog 24 = some (some 3) := by kernel_rfl
theorem hf21 : HasFn Try.prog 21 := ⟨_, _, Try.func21, rfl, by kernel_rfl⟩
theorem hf30 : HasFn Try.prog 30 := ⟨_, _, Try.func30, rfl, by kernel_rfl⟩
theorem hf31 : HasFn Try.prog 31 := ⟨_, _, Try.func31, rfl, by kernel_rfl⟩
theorem ze24 : zeroOf Try.prog 24 = some [.int .i64 0, .int .i64 0, .slice none 0 0] := by kernel_rfl
theorem ze22 : zeroOf Try.prog 22 = some [.slice none 0 0] := by kernel_rfl
theorem hf55 : HasFn Try.prog 55 := ⟨_, _, Try.func55, rfl, by kernel_rfl⟩
theorem sz24 : sizeIs Try.prog 24 = some 3 := by kernel_rfl
theorem fp24 : fieldPlaces Try.prog 24 = some [(0, 1), (1, 1), (2, 1)] := by kernel_rfl
theorem hf32 : HasFn Try.prog 32 := ⟨_, _, Try.func32, rfl, by kernel_rfl⟩
theorem hmix : Try.prog.follows .mixedOrders = true := by kernel_rfl
theorem hf74 : HasFn Try.prog 74 := ⟨_, _, Try.func74, rfl, by kernel_rfl⟩
theorem hf57 : HasFn Try.prog 57 := ⟨_, _, Try.func57, rfl, by kernel_rfl⟩
theorem hf58 : HasFn Try.prog 58 := ⟨_, _, Try.func58, rfl, by kernel_rfl⟩
theorem hf35 : HasFn Try.prog 35 := ⟨_, _, Try.func35, rfl, by kernel_rfl⟩
theorem hf34 : HasFn Try.prog 34 := ⟨_, _, Try.func34, rfl, by kernel_rfl⟩
theorem hf33 : HasFn Try.prog 33 := ⟨_, _, Try.func33, rfl, by kernel_rfl⟩
theorem hf77 : HasFn Try.prog 77 := ⟨_, _, Try.func77, rfl, by kernel_rfl⟩
theorem zv140 : zeroV Try.prog 140 = some (.agg #[]) := by kernel_rfl
theorem ze140 : zeroOf Try.prog 140 = some [] := by kernel_rfl
theorem sz140 : sizeIs Try.prog 140 = some 0 := by kernel_rfl
theorem fp140 : fieldPlaces Try.prog 140 = some [] := by kernel_rfl
theorem hf76 : HasFn Try.prog 76 := ⟨_, _, Try.func76, rfl, by kernel_rfl⟩
theorem fo50_0 : fieldOff Try.prog 50 0 = some 0 := by kernel_rfl
theorem hf78 : HasFn Try.prog 78 := ⟨_, _, Try.func78, rfl, by kernel_rfl⟩
theorem fo50_1 : fieldOff Try.prog 50 1 = some 1 := by kernel_rfl
theorem hf79 : HasFn Try.prog 79 := ⟨_, _, Try.func79, rfl, by kernel_rfl⟩
theorem hf80 : HasFn Try.prog 80 := ⟨_, _, Try.func80, rfl, by kernel_rfl⟩
theorem fp50 : fieldPlaces Try.prog 50 = some [(0, 1), (1, 1)] := by kernel_rfl
theorem ze50 : zeroOf Try.prog 50 = some [.int .i64 0, .slice none 0 0] := by kernel_rfl
theorem fp80 : fieldPlaces Try.prog 80 = some [(0, 2)] := by kernel_rfl
theorem ze80 : zeroOf Try.prog 80 = some [.int .i64 0, .slice none 0 0] := by kernel_rfl
theorem fo80_0 : fieldOff Try.prog 80 0 = some 0 := by kernel_rfl
theorem hf81 : HasFn Try.prog 81 := ⟨_, _, Try.func81, rfl, by kernel_rfl⟩
theorem hf82 : HasFn Try.prog 82 := ⟨_, _, Try.func82, rfl, by kernel_rfl⟩
theorem hf83 : HasFn Try.prog 83 := ⟨_, _, Try.func83, rfl, by kernel_rfl⟩
theorem sh50 : shp Try.prog 50 = some (some 2) := by kernel_rfl
theorem hf49 : HasFn Try.prog 49 := ⟨_, _, Try.func49, rfl, by kernel_rfl⟩
theorem hf46 : HasFn Try.prog 46 := ⟨_, _, Try.func46, rfl, by kernel_rfl⟩
theorem sz50 : sizeIs Try.prog 50 = some 2 := by kernel_rfl
theorem hf50 : HasFn Try.prog 50 := ⟨_, _, Try.func50, rfl, by kernel_rfl⟩
theorem hf51 : HasFn Try.prog 51 := ⟨_, _, Try.func51, rfl, by kernel_rfl⟩
theorem hf29 : HasFn Try.prog 29 := ⟨_, _, Try.func29, rfl, by kernel_rfl⟩
theorem hf48 : HasFn Try.prog 48 := ⟨_, _, Try.func48, rfl, by kernel_rfl⟩
theorem hf28 : HasFn Try.prog 28 := ⟨_, _, Try.func28, rfl, by kernel_rfl⟩
theorem sz9 : sizeIs Try.prog 9 = some 1 := by kernel_rfl
theorem sh9 : shp Try.prog 9 = some none := by kernel_rfl
theorem hf11 : HasFn Try.prog 11 := ⟨_, _, Try.func11, rfl, by kernel_rfl⟩
theorem ze9 : zeroOf Try.prog 9 = some [.string ByteArray.empty] := by kernel_rfl
theorem el9 : elemIs Try.prog 9 1 16 := elemIs_of (by kernel_rfl)
theorem hf12 : HasFn Try.prog 12 := ⟨_, _, Try.func12, rfl, by kernel_rfl⟩
end Go.Proofs.Ytfncgfcehkalnaa
