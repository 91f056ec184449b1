/- Closed facts of the program. -/
import Derived.Test.YtkndekkacimekaaProg
import Derived.Test.YtkndekkacimekaaSx23
namespace Go.Proofs.Ytkndekkacimekaa
open Go.Sx Go.RowKit
theorem sz3 : sizeIs Try.prog 3 = some 1 := by kernel_rfl
theorem sh3 : shp Try.prog 3 = some none := by kernel_rfl
theorem hf91 : HasFn Try.prog 91 := ⟨_, _, Try.func91, rfl, by kernel_rfl⟩
theorem hf52 : HasFn Try.prog 52 := ⟨_, _, Try.func52, rfl, by kernel_rfl⟩
theorem hf87 : HasFn Try.prog 87 := ⟨_, _, Try.func87, rfl, by kernel_rfl⟩
theorem hf86 : HasFn Try.prog 86 := ⟨_, _, Try.func86, rfl, by kernel_rfl⟩
theorem hf57 : HasFn Try.prog 57 := ⟨_, _, Try.func57, rfl, by kernel_rfl⟩
theorem hf100 : HasFn Try.prog 100 := ⟨_, _, Try.func100, rfl, by kernel_rfl⟩
theorem sh30 : shp Try.prog 30 = some none := by kernel_rfl
theorem zv3 : zeroV Try.prog 3 = some (.int .i64 0) := by kernel_rfl
theorem hf76 : HasFn Try.prog 76 := ⟨_, _, Try.func76, rfl, by kernel_rfl⟩
theorem ze3 : zeroOf Try.prog 3 = some [.int .i64 0] := by kernel_rfl
theorem hf77 : HasFn Try.prog 77 := ⟨_, _, Try.func77, rfl, by kernel_rfl⟩
theorem hf101 : HasFn Try.prog 101 := ⟨_, _, Try.func101, rfl, by kernel_rfl⟩
theorem el3 : elemIs Try.prog 3 1 8 := elemIs_of (by kernel_rfl)
theorem ze30 : zeroOf Try.prog 30 = some [.slice none 0 0] := by kernel_rfl
theorem sz30 : sizeIs Try.prog 30 = some 1 := by kernel_rfl
theorem ze116 : zeroOf Try.prog 116 = some [.map none] := by kernel_rfl
theorem sz116 : sizeIs Try.prog 116 = some 1 := by kernel_rfl
theorem hf102 : HasFn Try.prog 102 := ⟨_, _, Try.func102, rfl, by kernel_rfl⟩
theorem hf106 : HasFn Try.prog 106 := ⟨_, _, Try.func106, rfl, by kernel_rfl⟩
theorem sh116 : shp Try.prog 116 = some none := by kernel_rfl
theorem hmix : Try.prog.follows .mixedOrders = true := by kernel_rfl
theorem hf70 : HasFn Try.prog 70 := ⟨_, _, Try.func70, rfl, by kernel_rfl⟩
theorem hf78 : HasFn Try.prog 78 := ⟨_, _, Try.func78, rfl, by kernel_rfl⟩
theorem hf79 : HasFn Try.prog 79 := ⟨_, _, Try.func79, rfl, by kernel_rfl⟩
theorem zv136 : zeroV Try.prog 136 = some (.agg #[]) := by kernel_rfl
theorem ze136 : zeroOf Try.prog 136 = some [] := by kernel_rfl
theorem sz136 : sizeIs Try.prog 136 = some 0 := by kernel_rfl
theorem fp136 : fieldPlaces Try.prog 136 = some [] := by kernel_rfl
theorem fo54_0 : fieldOff Try.prog 54 0 = some 0 := by kernel_rfl
theorem fo54_1 : fieldOff Try.prog 54 1 = some 1 := by kernel_rfl
theorem hf71 : HasFn Try.prog 71 := ⟨_, _, Try.func71, rfl, by kernel_rfl⟩
theorem hf93 : HasFn Try.prog 93 := ⟨_, _, Try.func93, rfl, by kernel_rfl⟩
theorem fp54 : fieldPlaces Try.prog 54 = some [(0, 1), (1, 1)] := by kernel_rfl
theorem ze54 : zeroOf Try.prog 54 = some [.int .i64 0, .slice none 0 0] := by kernel_rfl
theorem fp98 : fieldPlaces Try.prog 98 = some [(0, 2)] := by kernel_rfl
theorem ze98 : zeroOf Try.prog 98 = some [.int .i64 0, .slice none 0 0] := by kernel_rfl
theorem fo98_0 : fieldOff Try.prog 98 0 = some 0 := by kernel_rfl
theorem hf88 : HasFn Try.prog 88 := ⟨_, _, Try.func88, rfl, by kernel_rfl⟩
theorem hf89 : HasFn Try.prog 89 := ⟨_, _, Try.func89, rfl, by kernel_rfl⟩
theorem hf90 : HasFn Try.prog 90 := ⟨_, _, Try.func90, rfl, by kernel_rfl⟩
theorem sh54 : shp Try.prog 54 = some (some 2) := by kernel_rfl
theorem hf61 : HasFn Try.prog 61 := ⟨_, _, Try.func61, rfl, by kernel_rfl⟩
theorem sz54 : sizeIs Try.prog 54 = some 2 := by kernel_rfl
theorem hf62 : HasFn Try.prog 62 := ⟨_, _, Try.func62, rfl, by kernel_rfl⟩
theorem hf63 : HasFn Try.prog 63 := ⟨_, _, Try.func63, rfl, by kernel_rfl⟩
theorem hf32 : HasFn Try.prog 32 := ⟨_, _, Try.func32, rfl, by kernel_rfl⟩
theorem hf72 : HasFn Try.prog 72 := ⟨_, _, Try.func72, rfl, by kernel_rfl⟩
theorem hf43 : HasFn Try.prog 43 := ⟨_, _, Try.func43, rfl, by kernel_rfl⟩
theorem hf45 : HasFn Try.prog 45 := ⟨_, _, Try.func45, rfl, by kernel_rfl⟩
theorem hf46 : HasFn Try.prog 46 := ⟨_, _, Try.func46, rfl, by kernel_rfl⟩
end Go.Proofs.Ytkndekkacimekaa
