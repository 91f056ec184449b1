/- Closed facts of the program. -/
import Derived.Test.YtnmbkopnopaigaaProg
import Derived.Test.YtnmbkopnopaigaaSx31M2
namespace Go.Proofs.Ytnmbkopnopaigaa
open Go.Sx Go.RowKit
theorem hf136 : HasFn Try.prog 136 := ⟨_, _, Try.func136, rfl, by kernel_rfl⟩
theorem hf94 : HasFn Try.prog 94 := ⟨_, _, Try.func94, rfl, by kernel_rfl⟩
theorem hf137 : HasFn Try.prog 137 := ⟨_, _, Try.func137, rfl, by kernel_rfl⟩
theorem sz3 : sizeIs Try.prog 3 = some 1 := by kernel_rfl
theorem sh3 : shp Try.prog 3 = some none := by kernel_rfl
theorem hf139 : HasFn Try.prog 139 := ⟨_, _, Try.func139, rfl, by kernel_rfl⟩
theorem hf104 : HasFn Try.prog 104 := ⟨_, _, Try.func104, rfl, by kernel_rfl⟩
theorem hf103 : HasFn Try.prog 103 := ⟨_, _, Try.func103, rfl, by kernel_rfl⟩
theorem hmix : Try.prog.follows .mixedOrders = true := by kernel_rfl
theorem hf58 : HasFn Try.prog 58 := ⟨_, _, Try.func58, rfl, by kernel_rfl⟩
theorem sh22 : shp Try.prog 22 = some none := by kernel_rfl
theorem sz37 : sizeIs Try.prog 37 = some 1 := by kernel_rfl
theorem sh37 : shp Try.prog 37 = some none := by kernel_rfl
theorem hf100 : HasFn Try.prog 100 := ⟨_, _, Try.func100, rfl, by kernel_rfl⟩
theorem hf138 : HasFn Try.prog 138 := ⟨_, _, Try.func138, rfl, by kernel_rfl⟩
theorem hf99 : HasFn Try.prog 99 := ⟨_, _, Try.func99, rfl, by kernel_rfl⟩
theorem fo24_1 : fieldOff Try.prog 24 1 = some 1 := by kernel_rfl
theorem fo24_0 : fieldOff Try.prog 24 0 = some 0 := by kernel_rfl
theorem hf63 : HasFn Try.prog 63 := ⟨_, _, Try.func63, rfl, by kernel_rfl⟩
theorem hf57 : HasFn Try.prog 57 := ⟨_, _, Try.func57, rfl, by kernel_rfl⟩
theorem sh24 : shp Try.prog 24 = some (some 2) := by kernel_rfl
theorem hf26 : HasFn Try.prog 26 := ⟨_, _, Try.func26, rfl, by kernel_rfl⟩
theorem hf97 : HasFn Try.prog 97 := ⟨_, _, Try.func97, rfl, by kernel_rfl⟩
theorem hf98 : HasFn Try.prog 98 := ⟨_, _, Try.func98, rfl, by kernel_rfl⟩
theorem ze3 : zeroOf Try.prog 3 = some [.int .i64 0] := by kernel_rfl
theorem el3 : elemIs Try.prog 3 1 8 := elemIs_of (by kernel_rfl)
theorem ze24 : zeroOf Try.prog 24 = some [.int .i64 0, .slice none 0 0] := by kernel_rfl
theorem fp24 : fieldPlaces Try.prog 24 = some [(0, 1), (1, 1)] := by kernel_rfl
theorem sz24 : sizeIs Try.prog 24 = some 2 := by kernel_rfl
theorem hf95 : HasFn Try.prog 95 := ⟨_, _, Try.func95, rfl, by kernel_rfl⟩
theorem hf96 : HasFn Try.prog 96 := ⟨_, _, Try.func96, rfl, by kernel_rfl⟩
theorem ze37 : zeroOf Try.prog 37 = some [.slice none 0 0] := by kernel_rfl
theorem el37 : elemIs Try.prog 37 1 24 := elemIs_of (by kernel_rfl)
theorem sz22 : sizeIs Try.prog 22 = some 1 := by kernel_rfl
theorem sh9 : shp Try.prog 9 = some none := by kernel_rfl
theorem hf54 : HasFn Try.prog 54 := ⟨_, _, Try.func54, rfl, by kernel_rfl⟩
theorem hf51 : HasFn Try.prog 51 := ⟨_, _, Try.func51, rfl, by kernel_rfl⟩
theorem hf53 : HasFn Try.prog 53 := ⟨_, _, Try.func53, rfl, by kernel_rfl⟩
theorem hf52 : HasFn Try.prog 52 := ⟨_, _, Try.func52, rfl, by kernel_rfl⟩
theorem hf123 : HasFn Try.prog 123 := ⟨_, _, Try.func123, rfl, by kernel_rfl⟩
theorem zv119 : zeroV Try.prog 119 = some (.agg #[]) := by kernel_rfl
theorem ze119 : zeroOf Try.prog 119 = some [] := by kernel_rfl
theorem sz119 : sizeIs Try.prog 119 = some 0 := by kernel_rfl
theorem fp119 : fieldPlaces Try.prog 119 = some [] := by kernel_rfl
theorem hf122 : HasFn Try.prog 122 := ⟨_, _, Try.func122, rfl, by kernel_rfl⟩
theorem fo122_0 : fieldOff Try.prog 122 0 = some 0 := by kernel_rfl
theorem hf118 : HasFn Try.prog 118 := ⟨_, _, Try.func118, rfl, by kernel_rfl⟩
theorem fo122_1 : fieldOff Try.prog 122 1 = some 1 := by kernel_rfl
theorem hf119 : HasFn Try.prog 119 := ⟨_, _, Try.func119, rfl, by kernel_rfl⟩
theorem fp122 : fieldPlaces Try.prog 122 = some [(0, 1), (1, 1)] := by kernel_rfl
theorem ze122 : zeroOf Try.prog 122 = some [.int .i64 0, .slice none 0 0] := by kernel_rfl
theorem fp168 : fieldPlaces Try.prog 168 = some [(0, 2)] := by kernel_rfl
theorem ze168 : zeroOf Try.prog 168 = some [.int .i64 0, .slice none 0 0] := by kernel_rfl
theorem fo168_0 : fieldOff Try.prog 168 0 = some 0 := by kernel_rfl
theorem hf152 : HasFn Try.prog 152 := ⟨_, _, Try.func152, rfl, by kernel_rfl⟩
theorem hf153 : HasFn Try.prog 153 := ⟨_, _, Try.func153, rfl, by kernel_rfl⟩
theorem hf154 : HasFn Try.prog 154 := ⟨_, _, Try.func154, rfl, by kernel_rfl⟩
theorem sh122 : shp Try.prog 122 = some (some 2) := by kernel_rfl
theorem hf115 : HasFn Try.prog 115 := ⟨_, _, Try.func115, rfl, by kernel_rfl⟩
theorem hf81 : HasFn Try.prog 81 := ⟨_, _, Try.func81, rfl, by kernel_rfl⟩
theorem sz122 : sizeIs Try.prog 122 = some 2 := by kernel_rfl
theorem hf116 : HasFn Try.prog 116 := ⟨_, _, Try.func116, rfl, by kernel_rfl⟩
theorem hf117 : HasFn Try.prog 117 := ⟨_, _, Try.func117, rfl, by kernel_rfl⟩
theorem hf78 : HasFn Try.prog 78 := ⟨_, _, Try.func78, rfl, by kernel_rfl⟩
theorem hf79 : HasFn Try.prog 79 := ⟨_, _, Try.func79, rfl, by kernel_rfl⟩
theorem sz82 : sizeIs Try.prog 82 = some 2 := by kernel_rfl
theorem ze82 : zeroOf Try.prog 82 = some [.int .i64 0, .int .i64 0] := by kernel_rfl
theorem el82 : elemIs Try.prog 82 2 16 := elemIs_of (by kernel_rfl)
theorem sh82 : shp Try.prog 82 = some (some 2) := by kernel_rfl
theorem hf125 : HasFn Try.prog 125 := ⟨_, _, Try.func125, rfl, by kernel_rfl⟩
theorem fo82_1 : fieldOff Try.prog 82 1 = some 1 := by kernel_rfl
theorem fo78_0 : fieldOff Try.prog 78 0 = some 0 := by kernel_rfl
theorem fo78_1 : fieldOff Try.prog 78 1 = some 1 := by kernel_rfl
theorem sh76 : shp Try.prog 76 = some none := by kernel_rfl
theorem fo82_0 : fieldOff Try.prog 82 0 = some 0 := by kernel_rfl
theorem hf121 : HasFn Try.prog 121 := ⟨_, _, Try.func121, rfl, by kernel_rfl⟩
theorem hf120 : HasFn Try.prog 120 := ⟨_, _, Try.func120, rfl, by kernel_rfl⟩
theorem hf124 : HasFn Try.prog 124 := ⟨_, _, Try.func124, rfl, by kernel_rfl⟩
theorem sz76 : sizeIs Try.prog 76 = some 1 := by kernel_rfl
theorem sh78 : shp Try.prog 78 = some (some 2) := by kernel_rfl
theorem fp132 : fieldPlaces Try.prog 132 = some [(0, 2)] := by kernel_rfl
theorem ze132 : zeroOf Try.prog 132 = some [.int .i64 0, .slice none 0 0] := by kernel_rfl
theorem fo132_0 : fieldOff Try.prog 132 0 = some 0 := by kernel_rfl
theorem hf155 : HasFn Try.prog 155 := ⟨_, _, Try.func155, rfl, by kernel_rfl⟩
theorem hf126 : HasFn Try.prog 126 := ⟨_, _, Try.func126, rfl, by kernel_rfl⟩
theorem fp82 : fieldPlaces Try.prog 82 = some [(0, 1), (1, 1)] := by kernel_rfl
theorem hf127 : HasFn Try.prog 127 := ⟨_, _, Try.func127, rfl, by kernel_rfl⟩
theorem hf129 : HasFn Try.prog 129 := ⟨_, _, Try.func129, rfl, by kernel_rfl⟩
theorem hf128 : HasFn Try.prog 128 := ⟨_, _, Try.func128, rfl, by kernel_rfl⟩
theorem fc82_0 : fieldCell Try.prog 82 0 = some 0 := by kernel_rfl
theorem ze78 : zeroOf Try.prog 78 = some [.int .i64 0, .slice none 0 0] := by kernel_rfl
theorem hf80 : HasFn Try.prog 80 := ⟨_, _, Try.func80, rfl, by kernel_rfl⟩
theorem fp78 : fieldPlaces Try.prog 78 = some [(0, 1), (1, 1)] := by kernel_rfl
theorem sz78 : sizeIs Try.prog 78 = some 2 := by kernel_rfl
theorem hf82 : HasFn Try.prog 82 := ⟨_, _, Try.func82, rfl, by kernel_rfl⟩
theorem hf83 : HasFn Try.prog 83 := ⟨_, _, Try.func83, rfl, by kernel_rfl⟩
theorem sz5 : sizeIs Try.prog 5 = some 1 := by kernel_rfl
theorem ze5 : zeroOf Try.prog 5 = some [.int .u8 0] := by kernel_rfl
theorem hf44 : HasFn Try.prog 44 := ⟨_, _, Try.func44, rfl, by kernel_rfl⟩
theorem hf45 : HasFn Try.prog 45 := ⟨_, _, Try.func45, rfl, by kernel_rfl⟩
theorem hf13 : HasFn Try.prog 13 := ⟨_, _, Try.func13, rfl, by kernel_rfl⟩
theorem hf46 : HasFn Try.prog 46 := ⟨_, _, Try.func46, rfl, by kernel_rfl⟩
theorem hf14 : HasFn Try.prog 14 := ⟨_, _, Try.func14, rfl, by kernel_rfl⟩
theorem hf17 : HasFn Try.prog 17 := ⟨_, _, Try.func17, rfl, by kernel_rfl⟩
end Go.Proofs.Ytnmbkopnopaigaa
