/- Closed facts of the program. -/
import Derived.Test.YthecfjipaepcgaaProg
import Derived.Test.YthecfjipaepcgaaSx31M4
namespace Go.Proofs.Ythecfjipaepcgaa
open Go.Sx Go.RowKit
theorem sz3 : sizeIs Try.prog 3 = some 1 := by kernel_rfl
theorem sh3 : shp Try.prog 3 = some none := by kernel_rfl
theorem hf115 : HasFn Try.prog 115 := ⟨_, _, Try.func115, rfl, by kernel_rfl⟩
theorem hf85 : HasFn Try.prog 85 := ⟨_, _, Try.func85, rfl, by kernel_rfl⟩
theorem hf99 : HasFn Try.prog 99 := ⟨_, _, Try.func99, rfl, by kernel_rfl⟩
theorem hf98 : HasFn Try.prog 98 := ⟨_, _, Try.func98, rfl, by kernel_rfl⟩
theorem ze3 : zeroOf Try.prog 3 = some [.int .i64 0] := by kernel_rfl
theorem el3 : elemIs Try.prog 3 1 8 := elemIs_of (by kernel_rfl)
theorem hmix : Try.prog.follows .mixedOrders = true := by kernel_rfl
theorem zv101 : zeroV Try.prog 101 = some (.agg #[]) := by kernel_rfl
theorem ze101 : zeroOf Try.prog 101 = some [] := by kernel_rfl
theorem sz101 : sizeIs Try.prog 101 = some 0 := by kernel_rfl
theorem fp101 : fieldPlaces Try.prog 101 = some [] := by kernel_rfl
theorem fo74_0 : fieldOff Try.prog 74 0 = some 0 := by kernel_rfl
theorem hf105 : HasFn Try.prog 105 := ⟨_, _, Try.func105, rfl, by kernel_rfl⟩
theorem fo74_1 : fieldOff Try.prog 74 1 = some 1 := by kernel_rfl
theorem sh45 : shp Try.prog 45 = some none := by kernel_rfl
theorem hf106 : HasFn Try.prog 106 := ⟨_, _, Try.func106, rfl, by kernel_rfl⟩
theorem hf107 : HasFn Try.prog 107 := ⟨_, _, Try.func107, rfl, by kernel_rfl⟩
theorem fp74 : fieldPlaces Try.prog 74 = some [(0, 1), (1, 1)] := by kernel_rfl
theorem ze74 : zeroOf Try.prog 74 = some [.int .i64 0, .slice none 0 0] := by kernel_rfl
theorem fp122 : fieldPlaces Try.prog 122 = some [(0, 2)] := by kernel_rfl
theorem ze122 : zeroOf Try.prog 122 = some [.int .i64 0, .slice none 0 0] := by kernel_rfl
theorem fo122_0 : fieldOff Try.prog 122 0 = some 0 := by kernel_rfl
theorem hf108 : HasFn Try.prog 108 := ⟨_, _, Try.func108, rfl, by kernel_rfl⟩
theorem hf109 : HasFn Try.prog 109 := ⟨_, _, Try.func109, rfl, by kernel_rfl⟩
theorem sz45 : sizeIs Try.prog 45 = some 1 := by kernel_rfl
theorem hf110 : HasFn Try.prog 110 := ⟨_, _, Try.func110, rfl, by kernel_rfl⟩
theorem sh74 : shp Try.prog 74 = some (some 2) := by kernel_rfl
theorem hf82 : HasFn Try.prog 82 := ⟨_, _, Try.func82, rfl, by kernel_rfl⟩
theorem sz74 : sizeIs Try.prog 74 = some 2 := by kernel_rfl
theorem hf83 : HasFn Try.prog 83 := ⟨_, _, Try.func83, rfl, by kernel_rfl⟩
theorem hf84 : HasFn Try.prog 84 := ⟨_, _, Try.func84, rfl, by kernel_rfl⟩
theorem hf73 : HasFn Try.prog 73 := ⟨_, _, Try.func73, rfl, by kernel_rfl⟩
theorem hf114 : HasFn Try.prog 114 := ⟨_, _, Try.func114, rfl, by kernel_rfl⟩
theorem fo50_1 : fieldOff Try.prog 50 1 = some 1 := by kernel_rfl
theorem fo50_0 : fieldOff Try.prog 50 0 = some 0 := by kernel_rfl
theorem sh9 : shp Try.prog 9 = some none := by kernel_rfl
theorem sz50 : sizeIs Try.prog 50 = some 2 := by kernel_rfl
theorem sh50 : shp Try.prog 50 = some (some 2) := by kernel_rfl
theorem ze50 : zeroOf Try.prog 50 = some [.string ByteArray.empty, .int .i64 0] := by kernel_rfl
theorem hf70 : HasFn Try.prog 70 := ⟨_, _, Try.func70, rfl, by kernel_rfl⟩
theorem hf72 : HasFn Try.prog 72 := ⟨_, _, Try.func72, rfl, by kernel_rfl⟩
theorem hf92 : HasFn Try.prog 92 := ⟨_, _, Try.func92, rfl, by kernel_rfl⟩
theorem sh43 : shp Try.prog 43 = some none := by kernel_rfl
theorem sh59 : shp Try.prog 59 = some none := by kernel_rfl
theorem hf71 : HasFn Try.prog 71 := ⟨_, _, Try.func71, rfl, by kernel_rfl⟩
theorem hf97 : HasFn Try.prog 97 := ⟨_, _, Try.func97, rfl, by kernel_rfl⟩
theorem hf96 : HasFn Try.prog 96 := ⟨_, _, Try.func96, rfl, by kernel_rfl⟩
theorem hf122 : HasFn Try.prog 122 := ⟨_, _, Try.func122, rfl, by kernel_rfl⟩
theorem hf113 : HasFn Try.prog 113 := ⟨_, _, Try.func113, rfl, by kernel_rfl⟩
theorem ze59 : zeroOf Try.prog 59 = some [.int .u64 0] := by kernel_rfl
theorem sz59 : sizeIs Try.prog 59 = some 1 := by kernel_rfl
theorem hf95 : HasFn Try.prog 95 := ⟨_, _, Try.func95, rfl, by kernel_rfl⟩
theorem hf38 : HasFn Try.prog 38 := ⟨_, _, Try.func38, rfl, by kernel_rfl⟩
theorem hf68 : HasFn Try.prog 68 := ⟨_, _, Try.func68, rfl, by kernel_rfl⟩
theorem hf69 : HasFn Try.prog 69 := ⟨_, _, Try.func69, rfl, by kernel_rfl⟩
theorem hf121 : HasFn Try.prog 121 := ⟨_, _, Try.func121, rfl, by kernel_rfl⟩
theorem fo86_0 : fieldOff Try.prog 86 0 = some 0 := by kernel_rfl
theorem hf112 : HasFn Try.prog 112 := ⟨_, _, Try.func112, rfl, by kernel_rfl⟩
theorem sz86 : sizeIs Try.prog 86 = some 2 := by kernel_rfl
theorem sh86 : shp Try.prog 86 = some (some 2) := by kernel_rfl
theorem ze86 : zeroOf Try.prog 86 = some [.int .i64 0, .int .i64 0] := by kernel_rfl
theorem fo86_1 : fieldOff Try.prog 86 1 = some 1 := by kernel_rfl
theorem hf111 : HasFn Try.prog 111 := ⟨_, _, Try.func111, rfl, by kernel_rfl⟩
theorem hf87 : HasFn Try.prog 87 := ⟨_, _, Try.func87, rfl, by kernel_rfl⟩
theorem hf86 : HasFn Try.prog 86 := ⟨_, _, Try.func86, rfl, by kernel_rfl⟩
theorem hf89 : HasFn Try.prog 89 := ⟨_, _, Try.func89, rfl, by kernel_rfl⟩
theorem hf88 : HasFn Try.prog 88 := ⟨_, _, Try.func88, rfl, by kernel_rfl⟩
theorem hf49 : HasFn Try.prog 49 := ⟨_, _, Try.func49, rfl, by kernel_rfl⟩
theorem hf52 : HasFn Try.prog 52 := ⟨_, _, Try.func52, rfl, by kernel_rfl⟩
theorem hf50 : HasFn Try.prog 50 := ⟨_, _, Try.func50, rfl, by kernel_rfl⟩
theorem sz9 : sizeIs Try.prog 9 = some 1 := by kernel_rfl
theorem ze79 : zeroOf Try.prog 79 = some [.slice none 0 0, .slice none 0 0, .slice none 0 0, .slice none 0 0, .slice none 0 0, .slice none 0 0, .slice none 0 0, .slice none 0 0, .slice none 0 0, .slice none 0 0, .slice none 0 0, .slice none 0 0, .slice none 0 0, .slice none 0 0, .slice none 0 0, .slice none 0 0, .slice none 0 0, .slice none 0 0, .slice none 0 0, .slice none 0 0] := by kernel_rfl
theorem ze80 : zeroOf Try.prog 80 = some [.int .i64 0, .slice none 0 0, .int .i64 0, .slice none 0 0, .int .i64 0, .slice none 0 0, .int .i64 0, .slice none 0 0, .int .i64 0, .slice none 0 0, .int .i64 0, .slice none 0 0, .int .i64 0, .slice none 0 0, .int .i64 0, .slice none 0 0, .int .i64 0, .slice none 0 0, .int .i64 0, .slice none 0 0, .int .i64 0, .slice none 0 0, .int .i64 0, .slice none 0 0, .int .i64 0, .slice none 0 0, .int .i64 0, .slice none 0 0, .int .i64 0, .slice none 0 0, .int .i64 0, .slice none 0 0, .int .i64 0, .slice none 0 0, .int .i64 0, .slice none 0 0, .int .i64 0, .slice none 0 0, .int .i64 0, .slice none 0 0] := by kernel_rfl
theorem hf33 : HasFn Try.prog 33 := ⟨_, _, Try.func33, rfl, by kernel_rfl⟩
theorem hf51 : HasFn Try.prog 51 := ⟨_, _, Try.func51, rfl, by kernel_rfl⟩
theorem hf53 : HasFn Try.prog 53 := ⟨_, _, Try.func53, rfl, by kernel_rfl⟩
theorem hf54 : HasFn Try.prog 54 := ⟨_, _, Try.func54, rfl, by kernel_rfl⟩
end Go.Proofs.Ythecfjipaepcgaa
