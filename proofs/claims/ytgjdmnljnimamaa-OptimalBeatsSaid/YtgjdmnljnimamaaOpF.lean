/- Closed facts of the program. -/
import Derived.Test.YtgjdmnljnimamaaProg
import Derived.Test.YtgjdmnljnimamaaSx23
namespace Go.Proofs.Ytgjdmnljnimamaa
open Go.Sx Go.RowKit
theorem sz3 : sizeIs Try.prog 3 = some 1 := by kernel_rfl
theorem sh3 : shp Try.prog 3 = some none := by kernel_rfl
theorem hf82 : HasFn Try.prog 82 := ⟨_, _, Try.func82, rfl, by kernel_rfl⟩
theorem hmix : Try.prog.follows .mixedOrders = true := by kernel_rfl
theorem hf57 : HasFn Try.prog 57 := ⟨_, _, Try.func57, rfl, by kernel_rfl⟩
theorem hf58 : HasFn Try.prog 58 := ⟨_, _, Try.func58, rfl, by kernel_rfl⟩
theorem hf89 : HasFn Try.prog 89 := ⟨_, _, Try.func89, rfl, by kernel_rfl⟩
theorem hf51 : HasFn Try.prog 51 := ⟨_, _, Try.func51, rfl, by kernel_rfl⟩
theorem sh23 : shp Try.prog 23 = some none := by kernel_rfl
theorem el3 : elemIs Try.prog 3 1 8 := elemIs_of (by kernel_rfl)
theorem ze3 : zeroOf Try.prog 3 = some [.int .i64 0] := by kernel_rfl
theorem ze23 : zeroOf Try.prog 23 = some [.slice none 0 0] := by kernel_rfl
theorem sz23 : sizeIs Try.prog 23 = some 1 := by kernel_rfl
theorem ze106 : zeroOf Try.prog 106 = some [.map none] := by kernel_rfl
theorem sz106 : sizeIs Try.prog 106 = some 1 := by kernel_rfl
theorem hf94 : HasFn Try.prog 94 := ⟨_, _, Try.func94, rfl, by kernel_rfl⟩
theorem hf112 : HasFn Try.prog 112 := ⟨_, _, Try.func112, rfl, by kernel_rfl⟩
theorem sh106 : shp Try.prog 106 = some none := by kernel_rfl
theorem zv3 : zeroV Try.prog 3 = some (.int .i64 0) := by kernel_rfl
theorem hf61 : HasFn Try.prog 61 := ⟨_, _, Try.func61, rfl, by kernel_rfl⟩
theorem hf70 : HasFn Try.prog 70 := ⟨_, _, Try.func70, rfl, by kernel_rfl⟩
theorem hf69 : HasFn Try.prog 69 := ⟨_, _, Try.func69, rfl, by kernel_rfl⟩
theorem hf71 : HasFn Try.prog 71 := ⟨_, _, Try.func71, rfl, by kernel_rfl⟩
theorem hf36 : HasFn Try.prog 36 := ⟨_, _, Try.func36, rfl, by kernel_rfl⟩
theorem hf72 : HasFn Try.prog 72 := ⟨_, _, Try.func72, rfl, by kernel_rfl⟩
theorem hf73 : HasFn Try.prog 73 := ⟨_, _, Try.func73, rfl, by kernel_rfl⟩
theorem hf38 : HasFn Try.prog 38 := ⟨_, _, Try.func38, rfl, by kernel_rfl⟩
theorem hf39 : HasFn Try.prog 39 := ⟨_, _, Try.func39, rfl, by kernel_rfl⟩
theorem hf40 : HasFn Try.prog 40 := ⟨_, _, Try.func40, rfl, by kernel_rfl⟩
theorem hf32 : HasFn Try.prog 32 := ⟨_, _, Try.func32, rfl, by kernel_rfl⟩
theorem hf41 : HasFn Try.prog 41 := ⟨_, _, Try.func41, rfl, by kernel_rfl⟩
theorem hf42 : HasFn Try.prog 42 := ⟨_, _, Try.func42, rfl, by kernel_rfl⟩
theorem hf43 : HasFn Try.prog 43 := ⟨_, _, Try.func43, rfl, by kernel_rfl⟩
theorem hf26 : HasFn Try.prog 26 := ⟨_, _, Try.func26, rfl, by kernel_rfl⟩
theorem hf74 : HasFn Try.prog 74 := ⟨_, _, Try.func74, rfl, by kernel_rfl⟩
theorem hf44 : HasFn Try.prog 44 := ⟨_, _, Try.func44, rfl, by kernel_rfl⟩
theorem zv132 : zeroV Try.prog 132 = some (.agg #[]) := by kernel_rfl
theorem ze132 : zeroOf Try.prog 132 = some [] := by kernel_rfl
theorem sz132 : sizeIs Try.prog 132 = some 0 := by kernel_rfl
theorem fp132 : fieldPlaces Try.prog 132 = some [] := by kernel_rfl
theorem fo48_0 : fieldOff Try.prog 48 0 = some 0 := by kernel_rfl
theorem fo48_1 : fieldOff Try.prog 48 1 = some 1 := by kernel_rfl
theorem hf65 : HasFn Try.prog 65 := ⟨_, _, Try.func65, rfl, by kernel_rfl⟩
theorem hf86 : HasFn Try.prog 86 := ⟨_, _, Try.func86, rfl, by kernel_rfl⟩
theorem fp48 : fieldPlaces Try.prog 48 = some [(0, 1), (1, 1)] := by kernel_rfl
theorem ze48 : zeroOf Try.prog 48 = some [.int .i64 0, .slice none 0 0] := by kernel_rfl
theorem fp104 : fieldPlaces Try.prog 104 = some [(0, 2)] := by kernel_rfl
theorem ze104 : zeroOf Try.prog 104 = some [.int .i64 0, .slice none 0 0] := by kernel_rfl
theorem fo104_0 : fieldOff Try.prog 104 0 = some 0 := by kernel_rfl
theorem hf91 : HasFn Try.prog 91 := ⟨_, _, Try.func91, rfl, by kernel_rfl⟩
theorem hf92 : HasFn Try.prog 92 := ⟨_, _, Try.func92, rfl, by kernel_rfl⟩
theorem hf93 : HasFn Try.prog 93 := ⟨_, _, Try.func93, rfl, by kernel_rfl⟩
theorem sh48 : shp Try.prog 48 = some (some 2) := by kernel_rfl
theorem hf66 : HasFn Try.prog 66 := ⟨_, _, Try.func66, rfl, by kernel_rfl⟩
theorem sz48 : sizeIs Try.prog 48 = some 2 := by kernel_rfl
theorem hf67 : HasFn Try.prog 67 := ⟨_, _, Try.func67, rfl, by kernel_rfl⟩
theorem hf68 : HasFn Try.prog 68 := ⟨_, _, Try.func68, rfl, by kernel_rfl⟩
theorem hf37 : HasFn Try.prog 37 := ⟨_, _, Try.func37, rfl, by kernel_rfl⟩
theorem sz146 : sizeIs Try.prog 146 = some 2 := by kernel_rfl
theorem ze146 : zeroOf Try.prog 146 = some [.int .i64 0, .int .i64 0] := by kernel_rfl
theorem el146 : elemIs Try.prog 146 2 16 := elemIs_of (by kernel_rfl)
theorem sh146 : shp Try.prog 146 = some (some 2) := by kernel_rfl
theorem hf103 : HasFn Try.prog 103 := ⟨_, _, Try.func103, rfl, by kernel_rfl⟩
theorem fo146_1 : fieldOff Try.prog 146 1 = some 1 := by kernel_rfl
theorem fo79_0 : fieldOff Try.prog 79 0 = some 0 := by kernel_rfl
theorem fo79_1 : fieldOff Try.prog 79 1 = some 1 := by kernel_rfl
theorem sh77 : shp Try.prog 77 = some none := by kernel_rfl
theorem fo146_0 : fieldOff Try.prog 146 0 = some 0 := by kernel_rfl
theorem hf101 : HasFn Try.prog 101 := ⟨_, _, Try.func101, rfl, by kernel_rfl⟩
theorem hf100 : HasFn Try.prog 100 := ⟨_, _, Try.func100, rfl, by kernel_rfl⟩
theorem hf102 : HasFn Try.prog 102 := ⟨_, _, Try.func102, rfl, by kernel_rfl⟩
theorem sz77 : sizeIs Try.prog 77 = some 1 := by kernel_rfl
theorem sh79 : shp Try.prog 79 = some (some 2) := by kernel_rfl
theorem fp121 : fieldPlaces Try.prog 121 = some [(0, 2)] := by kernel_rfl
theorem ze121 : zeroOf Try.prog 121 = some [.int .i64 0, .slice none 0 0] := by kernel_rfl
theorem fo121_0 : fieldOff Try.prog 121 0 = some 0 := by kernel_rfl
theorem hf113 : HasFn Try.prog 113 := ⟨_, _, Try.func113, rfl, by kernel_rfl⟩
theorem hf104 : HasFn Try.prog 104 := ⟨_, _, Try.func104, rfl, by kernel_rfl⟩
theorem fp146 : fieldPlaces Try.prog 146 = some [(0, 1), (1, 1)] := by kernel_rfl
theorem hf105 : HasFn Try.prog 105 := ⟨_, _, Try.func105, rfl, by kernel_rfl⟩
theorem hf107 : HasFn Try.prog 107 := ⟨_, _, Try.func107, rfl, by kernel_rfl⟩
theorem hf106 : HasFn Try.prog 106 := ⟨_, _, Try.func106, rfl, by kernel_rfl⟩
theorem fc146_0 : fieldCell Try.prog 146 0 = some 0 := by kernel_rfl
theorem ze79 : zeroOf Try.prog 79 = some [.int .i64 0, .slice none 0 0] := by kernel_rfl
theorem hf78 : HasFn Try.prog 78 := ⟨_, _, Try.func78, rfl, by kernel_rfl⟩
theorem fp79 : fieldPlaces Try.prog 79 = some [(0, 1), (1, 1)] := by kernel_rfl
theorem sz79 : sizeIs Try.prog 79 = some 2 := by kernel_rfl
theorem hf79 : HasFn Try.prog 79 := ⟨_, _, Try.func79, rfl, by kernel_rfl⟩
theorem hf80 : HasFn Try.prog 80 := ⟨_, _, Try.func80, rfl, by kernel_rfl⟩
theorem sz142 : sizeIs Try.prog 142 = some 2 := by kernel_rfl
theorem ze142 : zeroOf Try.prog 142 = some [.int .i64 0, .bool false] := by kernel_rfl
theorem el142 : elemIs Try.prog 142 2 16 := elemIs_of (by kernel_rfl)
theorem sh142 : shp Try.prog 142 = some (some 2) := by kernel_rfl
theorem fo142_0 : fieldOff Try.prog 142 0 = some 0 := by kernel_rfl
theorem fo116_0 : fieldOff Try.prog 116 0 = some 0 := by kernel_rfl
theorem fo74_1 : fieldOff Try.prog 74 1 = some 1 := by kernel_rfl
theorem fo74_2 : fieldOff Try.prog 74 2 = some 2 := by kernel_rfl
theorem sh72 : shp Try.prog 72 = some none := by kernel_rfl
theorem fo74_0 : fieldOff Try.prog 74 0 = some 0 := by kernel_rfl
theorem hf95 : HasFn Try.prog 95 := ⟨_, _, Try.func95, rfl, by kernel_rfl⟩
theorem hf96 : HasFn Try.prog 96 := ⟨_, _, Try.func96, rfl, by kernel_rfl⟩
theorem sz72 : sizeIs Try.prog 72 = some 1 := by kernel_rfl
theorem sh74 : shp Try.prog 74 = some (some 3) := by kernel_rfl
theorem fp116 : fieldPlaces Try.prog 116 = some [(0, 3)] := by kernel_rfl
theorem ze116 : zeroOf Try.prog 116 = some [.int .i64 0, .int .i64 0, .slice none 0 0] := by kernel_rfl
theorem hf98 : HasFn Try.prog 98 := ⟨_, _, Try.func98, rfl, by kernel_rfl⟩
theorem hf97 : HasFn Try.prog 97 := ⟨_, _, Try.func97, rfl, by kernel_rfl⟩
theorem fo142_1 : fieldOff Try.prog 142 1 = some 1 := by kernel_rfl
theorem sz4 : sizeIs Try.prog 4 = some 1 := by kernel_rfl
theorem fp142 : fieldPlaces Try.prog 142 = some [(0, 1), (1, 1)] := by kernel_rfl
theorem sh4 : shp Try.prog 4 = some none := by kernel_rfl
theorem hf99 : HasFn Try.prog 99 := ⟨_, _, Try.func99, rfl, by kernel_rfl⟩
theorem ze74 : zeroOf Try.prog 74 = some [.int .i64 0, .int .i64 0, .slice none 0 0] := by kernel_rfl
theorem hf75 : HasFn Try.prog 75 := ⟨_, _, Try.func75, rfl, by kernel_rfl⟩
theorem fp74 : fieldPlaces Try.prog 74 = some [(0, 1), (1, 1), (2, 1)] := by kernel_rfl
theorem sz74 : sizeIs Try.prog 74 = some 3 := by kernel_rfl
theorem hf76 : HasFn Try.prog 76 := ⟨_, _, Try.func76, rfl, by kernel_rfl⟩
theorem hf77 : HasFn Try.prog 77 := ⟨_, _, Try.func77, rfl, by kernel_rfl⟩
theorem hf45 : HasFn Try.prog 45 := ⟨_, _, Try.func45, rfl, by kernel_rfl⟩
theorem hf46 : HasFn Try.prog 46 := ⟨_, _, Try.func46, rfl, by kernel_rfl⟩
end Go.Proofs.Ytgjdmnljnimamaa
