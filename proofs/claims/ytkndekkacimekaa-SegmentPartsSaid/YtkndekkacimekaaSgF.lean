/- Closed facts of the program. -/
import Derived.Test.YtkndekkacimekaaProg
import Derived.Test.YtkndekkacimekaaSx22
namespace Go.Proofs.Ytkndekkacimekaa
open Go.Sx Go.RowKit
theorem sz3 : sizeIs Try.prog 3 = some 1 := by kernel_rfl
theorem ze3 : zeroOf Try.prog 3 = some [.int .i64 0] := by kernel_rfl
theorem el3 : elemIs Try.prog 3 1 8 := elemIs_of (by kernel_rfl)
theorem sh3 : shp Try.prog 3 = some none := by kernel_rfl
theorem hmix : Try.prog.follows .mixedOrders = true := by kernel_rfl
theorem hf91 : HasFn Try.prog 91 := ⟨_, _, Try.func91, rfl, by kernel_rfl⟩
theorem sz30 : sizeIs Try.prog 30 = some 1 := by kernel_rfl
theorem sh30 : shp Try.prog 30 = some none := by kernel_rfl
theorem hf96 : HasFn Try.prog 96 := ⟨_, _, Try.func96, rfl, by kernel_rfl⟩
theorem hf52 : HasFn Try.prog 52 := ⟨_, _, Try.func52, rfl, by kernel_rfl⟩
theorem zv136 : zeroV Try.prog 136 = some (.agg #[]) := by kernel_rfl
theorem ze136 : zeroOf Try.prog 136 = some [] := by kernel_rfl
theorem sz136 : sizeIs Try.prog 136 = some 0 := by kernel_rfl
theorem fp136 : fieldPlaces Try.prog 136 = some [] := by kernel_rfl
theorem hf56 : HasFn Try.prog 56 := ⟨_, _, Try.func56, rfl, by kernel_rfl⟩
theorem hf30 : HasFn Try.prog 30 := ⟨_, _, Try.func30, rfl, by kernel_rfl⟩
theorem hf87 : HasFn Try.prog 87 := ⟨_, _, Try.func87, rfl, by kernel_rfl⟩
theorem hf86 : HasFn Try.prog 86 := ⟨_, _, Try.func86, rfl, by kernel_rfl⟩
theorem fo58_0 : fieldOff Try.prog 58 0 = some 0 := by kernel_rfl
theorem hf70 : HasFn Try.prog 70 := ⟨_, _, Try.func70, rfl, by kernel_rfl⟩
theorem fo58_1 : fieldOff Try.prog 58 1 = some 1 := by kernel_rfl
theorem fo58_2 : fieldOff Try.prog 58 2 = some 2 := by kernel_rfl
theorem fo58_3 : fieldOff Try.prog 58 3 = some 3 := by kernel_rfl
theorem ze30 : zeroOf Try.prog 30 = some [.slice none 0 0] := by kernel_rfl
theorem hf67 : HasFn Try.prog 67 := ⟨_, _, Try.func67, rfl, by kernel_rfl⟩
theorem hf71 : HasFn Try.prog 71 := ⟨_, _, Try.func71, rfl, by kernel_rfl⟩
theorem fo129_0 : fieldOff Try.prog 129 0 = some 0 := by kernel_rfl
theorem hf88 : HasFn Try.prog 88 := ⟨_, _, Try.func88, rfl, by kernel_rfl⟩
theorem hf89 : HasFn Try.prog 89 := ⟨_, _, Try.func89, rfl, by kernel_rfl⟩
theorem hf90 : HasFn Try.prog 90 := ⟨_, _, Try.func90, rfl, by kernel_rfl⟩
theorem fo129_1 : fieldOff Try.prog 129 1 = some 1 := by kernel_rfl
theorem hf93 : HasFn Try.prog 93 := ⟨_, _, Try.func93, rfl, by kernel_rfl⟩
theorem fp129 : fieldPlaces Try.prog 129 = some [(0, 1), (1, 1)] := by kernel_rfl
theorem ze129 : zeroOf Try.prog 129 = some [.slice none 0 0, .int .i64 0] := by kernel_rfl
theorem fp131 : fieldPlaces Try.prog 131 = some [(0, 2), (2, 2)] := by kernel_rfl
theorem ze131 : zeroOf Try.prog 131 = some [.slice none 0 0, .int .i64 0, .slice none 0 0, .int .i64 0] := by kernel_rfl
theorem ze58 : zeroOf Try.prog 58 = some [.int .i64 0, .int .i64 0, .slice none 0 0, .slice none 0 0] := by kernel_rfl
theorem fo131_0 : fieldOff Try.prog 131 0 = some 0 := by kernel_rfl
theorem fo131_1 : fieldOff Try.prog 131 1 = some 2 := by kernel_rfl
theorem fp58 : fieldPlaces Try.prog 58 = some [(0, 1), (1, 1), (2, 1), (3, 1)] := by kernel_rfl
theorem sz58 : sizeIs Try.prog 58 = some 4 := by kernel_rfl
theorem sh58 : shp Try.prog 58 = some (some 4) := by kernel_rfl
theorem hf94 : HasFn Try.prog 94 := ⟨_, _, Try.func94, rfl, by kernel_rfl⟩
theorem hf95 : HasFn Try.prog 95 := ⟨_, _, Try.func95, rfl, by kernel_rfl⟩
theorem hf41 : HasFn Try.prog 41 := ⟨_, _, Try.func41, rfl, by kernel_rfl⟩
theorem hf64 : HasFn Try.prog 64 := ⟨_, _, Try.func64, rfl, by kernel_rfl⟩
theorem hf65 : HasFn Try.prog 65 := ⟨_, _, Try.func65, rfl, by kernel_rfl⟩
theorem hf66 : HasFn Try.prog 66 := ⟨_, _, Try.func66, rfl, by kernel_rfl⟩
theorem hf57 : HasFn Try.prog 57 := ⟨_, _, Try.func57, rfl, by kernel_rfl⟩
theorem hf68 : HasFn Try.prog 68 := ⟨_, _, Try.func68, rfl, by kernel_rfl⟩
theorem hf69 : HasFn Try.prog 69 := ⟨_, _, Try.func69, rfl, by kernel_rfl⟩
theorem hf27 : HasFn Try.prog 27 := ⟨_, _, Try.func27, rfl, by kernel_rfl⟩
theorem hf37 : HasFn Try.prog 37 := ⟨_, _, Try.func37, rfl, by kernel_rfl⟩
theorem hf34 : HasFn Try.prog 34 := ⟨_, _, Try.func34, rfl, by kernel_rfl⟩
theorem hf33 : HasFn Try.prog 33 := ⟨_, _, Try.func33, rfl, by kernel_rfl⟩
theorem hf35 : HasFn Try.prog 35 := ⟨_, _, Try.func35, rfl, by kernel_rfl⟩
theorem hf42 : HasFn Try.prog 42 := ⟨_, _, Try.func42, rfl, by kernel_rfl⟩
theorem hf36 : HasFn Try.prog 36 := ⟨_, _, Try.func36, rfl, by kernel_rfl⟩
theorem hf38 : HasFn Try.prog 38 := ⟨_, _, Try.func38, rfl, by kernel_rfl⟩
theorem hf39 : HasFn Try.prog 39 := ⟨_, _, Try.func39, rfl, by kernel_rfl⟩
theorem hf40 : HasFn Try.prog 40 := ⟨_, _, Try.func40, rfl, by kernel_rfl⟩
end Go.Proofs.Ytkndekkacimekaa
