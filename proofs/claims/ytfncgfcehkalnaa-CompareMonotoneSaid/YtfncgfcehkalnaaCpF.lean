/- Closed facts of the program. -/
import Derived.Test.YtfncgfcehkalnaaProg
import Derived.Test.YtfncgfcehkalnaaSx12M16
namespace Go.Proofs.Ytfncgfcehkalnaa
open Go.Sx Go.RowKit
theorem sz3 : sizeIs Try.prog 3 = some 1 := by kernel_rfl
theorem sh3 : shp Try.prog 3 = some none := by kernel_rfl
theorem hf56 : HasFn Try.prog 56 := ⟨_, _, Try.func56, rfl, by kernel_rfl⟩
theorem hf77 : HasFn Try.prog 77 := ⟨_, _, Try.func77, rfl, by kernel_rfl⟩
theorem hf76 : HasFn Try.prog 76 := ⟨_, _, Try.func76, rfl, by kernel_rfl⟩
theorem hf33 : HasFn Try.prog 33 := ⟨_, _, Try.func33, rfl, by kernel_rfl⟩
theorem ze3 : zeroOf Try.prog 3 = some [.int .i64 0] := by kernel_rfl
theorem el3 : elemIs Try.prog 3 1 8 := elemIs_of (by kernel_rfl)
theorem hmix : Try.prog.follows .mixedOrders = true := by kernel_rfl
theorem zv140 : zeroV Try.prog 140 = some (.agg #[]) := by kernel_rfl
theorem ze140 : zeroOf Try.prog 140 = some [] := by kernel_rfl
theorem sz140 : sizeIs Try.prog 140 = some 0 := by kernel_rfl
theorem fp140 : fieldPlaces Try.prog 140 = some [] := by kernel_rfl
theorem fo50_0 : fieldOff Try.prog 50 0 = some 0 := by kernel_rfl
theorem hf78 : HasFn Try.prog 78 := ⟨_, _, Try.func78, rfl, by kernel_rfl⟩
theorem fo50_1 : fieldOff Try.prog 50 1 = some 1 := by kernel_rfl
theorem sh22 : shp Try.prog 22 = some none := by kernel_rfl
theorem hf79 : HasFn Try.prog 79 := ⟨_, _, Try.func79, rfl, by kernel_rfl⟩
theorem hf80 : HasFn Try.prog 80 := ⟨_, _, Try.func80, rfl, by kernel_rfl⟩
theorem fp50 : fieldPlaces Try.prog 50 = some [(0, 1), (1, 1)] := by kernel_rfl
theorem ze50 : zeroOf Try.prog 50 = some [.int .i64 0, .slice none 0 0] := by kernel_rfl
theorem fp80 : fieldPlaces Try.prog 80 = some [(0, 2)] := by kernel_rfl
theorem ze80 : zeroOf Try.prog 80 = some [.int .i64 0, .slice none 0 0] := by kernel_rfl
theorem fo80_0 : fieldOff Try.prog 80 0 = some 0 := by kernel_rfl
theorem hf81 : HasFn Try.prog 81 := ⟨_, _, Try.func81, rfl, by kernel_rfl⟩
theorem hf82 : HasFn Try.prog 82 := ⟨_, _, Try.func82, rfl, by kernel_rfl⟩
theorem sz22 : sizeIs Try.prog 22 = some 1 := by kernel_rfl
theorem hf83 : HasFn Try.prog 83 := ⟨_, _, Try.func83, rfl, by kernel_rfl⟩
theorem sh50 : shp Try.prog 50 = some (some 2) := by kernel_rfl
theorem hf49 : HasFn Try.prog 49 := ⟨_, _, Try.func49, rfl, by kernel_rfl⟩
theorem hf46 : HasFn Try.prog 46 := ⟨_, _, Try.func46, rfl, by kernel_rfl⟩
theorem sz50 : sizeIs Try.prog 50 = some 2 := by kernel_rfl
theorem hf50 : HasFn Try.prog 50 := ⟨_, _, Try.func50, rfl, by kernel_rfl⟩
theorem hf51 : HasFn Try.prog 51 := ⟨_, _, Try.func51, rfl, by kernel_rfl⟩
theorem sz160 : sizeIs Try.prog 160 = some 2 := by kernel_rfl
theorem ze160 : zeroOf Try.prog 160 = some [.int .i64 0, .int .i64 0] := by kernel_rfl
theorem el160 : elemIs Try.prog 160 2 16 := elemIs_of (by kernel_rfl)
theorem sh160 : shp Try.prog 160 = some (some 2) := by kernel_rfl
theorem hf125 : HasFn Try.prog 125 := ⟨_, _, Try.func125, rfl, by kernel_rfl⟩
theorem fo160_1 : fieldOff Try.prog 160 1 = some 1 := by kernel_rfl
theorem fo100_0 : fieldOff Try.prog 100 0 = some 0 := by kernel_rfl
theorem fo100_1 : fieldOff Try.prog 100 1 = some 1 := by kernel_rfl
theorem sh98 : shp Try.prog 98 = some none := by kernel_rfl
theorem fo160_0 : fieldOff Try.prog 160 0 = some 0 := by kernel_rfl
theorem hf123 : HasFn Try.prog 123 := ⟨_, _, Try.func123, rfl, by kernel_rfl⟩
theorem hf122 : HasFn Try.prog 122 := ⟨_, _, Try.func122, rfl, by kernel_rfl⟩
theorem hf124 : HasFn Try.prog 124 := ⟨_, _, Try.func124, rfl, by kernel_rfl⟩
theorem sz98 : sizeIs Try.prog 98 = some 1 := by kernel_rfl
theorem sh100 : shp Try.prog 100 = some (some 2) := by kernel_rfl
theorem fp127 : fieldPlaces Try.prog 127 = some [(0, 2)] := by kernel_rfl
theorem ze127 : zeroOf Try.prog 127 = some [.int .i64 0, .slice none 0 0] := by kernel_rfl
theorem fo127_0 : fieldOff Try.prog 127 0 = some 0 := by kernel_rfl
theorem hf140 : HasFn Try.prog 140 := ⟨_, _, Try.func140, rfl, by kernel_rfl⟩
theorem hf126 : HasFn Try.prog 126 := ⟨_, _, Try.func126, rfl, by kernel_rfl⟩
theorem fp160 : fieldPlaces Try.prog 160 = some [(0, 1), (1, 1)] := by kernel_rfl
theorem hf127 : HasFn Try.prog 127 := ⟨_, _, Try.func127, rfl, by kernel_rfl⟩
theorem hf129 : HasFn Try.prog 129 := ⟨_, _, Try.func129, rfl, by kernel_rfl⟩
theorem hf128 : HasFn Try.prog 128 := ⟨_, _, Try.func128, rfl, by kernel_rfl⟩
theorem fc160_0 : fieldCell Try.prog 160 0 = some 0 := by kernel_rfl
theorem ze100 : zeroOf Try.prog 100 = some [.int .i64 0, .slice none 0 0] := by kernel_rfl
theorem hf94 : HasFn Try.prog 94 := ⟨_, _, Try.func94, rfl, by kernel_rfl⟩
theorem fp100 : fieldPlaces Try.prog 100 = some [(0, 1), (1, 1)] := by kernel_rfl
theorem sz100 : sizeIs Try.prog 100 = some 2 := by kernel_rfl
theorem hf95 : HasFn Try.prog 95 := ⟨_, _, Try.func95, rfl, by kernel_rfl⟩
theorem hf96 : HasFn Try.prog 96 := ⟨_, _, Try.func96, rfl, by kernel_rfl⟩
theorem sz156 : sizeIs Try.prog 156 = some 2 := by kernel_rfl
theorem ze156 : zeroOf Try.prog 156 = some [.int .i64 0, .bool false] := by kernel_rfl
theorem el156 : elemIs Try.prog 156 2 16 := elemIs_of (by kernel_rfl)
theorem sh156 : shp Try.prog 156 = some (some 2) := by kernel_rfl
theorem fo156_0 : fieldOff Try.prog 156 0 = some 0 := by kernel_rfl
theorem fo122_0 : fieldOff Try.prog 122 0 = some 0 := by kernel_rfl
theorem fo95_1 : fieldOff Try.prog 95 1 = some 1 := by kernel_rfl
theorem fo95_2 : fieldOff Try.prog 95 2 = some 2 := by kernel_rfl
theorem sh93 : shp Try.prog 93 = some none := by kernel_rfl
theorem fo95_0 : fieldOff Try.prog 95 0 = some 0 := by kernel_rfl
theorem hf117 : HasFn Try.prog 117 := ⟨_, _, Try.func117, rfl, by kernel_rfl⟩
theorem hf118 : HasFn Try.prog 118 := ⟨_, _, Try.func118, rfl, by kernel_rfl⟩
theorem sz93 : sizeIs Try.prog 93 = some 1 := by kernel_rfl
theorem sh95 : shp Try.prog 95 = some (some 3) := by kernel_rfl
theorem fp122 : fieldPlaces Try.prog 122 = some [(0, 3)] := by kernel_rfl
theorem ze122 : zeroOf Try.prog 122 = some [.int .i64 0, .int .i64 0, .slice none 0 0] := by kernel_rfl
theorem hf120 : HasFn Try.prog 120 := ⟨_, _, Try.func120, rfl, by kernel_rfl⟩
theorem hf119 : HasFn Try.prog 119 := ⟨_, _, Try.func119, rfl, by kernel_rfl⟩
theorem fo156_1 : fieldOff Try.prog 156 1 = some 1 := by kernel_rfl
theorem sz4 : sizeIs Try.prog 4 = some 1 := by kernel_rfl
theorem fp156 : fieldPlaces Try.prog 156 = some [(0, 1), (1, 1)] := by kernel_rfl
theorem sh4 : shp Try.prog 4 = some none := by kernel_rfl
theorem hf121 : HasFn Try.prog 121 := ⟨_, _, Try.func121, rfl, by kernel_rfl⟩
theorem ze95 : zeroOf Try.prog 95 = some [.int .i64 0, .int .i64 0, .slice none 0 0] := by kernel_rfl
theorem hf91 : HasFn Try.prog 91 := ⟨_, _, Try.func91, rfl, by kernel_rfl⟩
theorem fp95 : fieldPlaces Try.prog 95 = some [(0, 1), (1, 1), (2, 1)] := by kernel_rfl
theorem sz95 : sizeIs Try.prog 95 = some 3 := by kernel_rfl
theorem hf92 : HasFn Try.prog 92 := ⟨_, _, Try.func92, rfl, by kernel_rfl⟩
theorem hf93 : HasFn Try.prog 93 := ⟨_, _, Try.func93, rfl, by kernel_rfl⟩
theorem hf86 : HasFn Try.prog 86 := ⟨_, _, Try.func86, rfl, by kernel_rfl⟩
theorem fo104_0 : fieldOff Try.prog 104 0 = some 0 := by kernel_rfl
theorem fo104_1 : fieldOff Try.prog 104 1 = some 1 := by kernel_rfl
theorem fo104_2 : fieldOff Try.prog 104 2 = some 2 := by kernel_rfl
theorem fo104_3 : fieldOff Try.prog 104 3 = some 3 := by kernel_rfl
theorem ze22 : zeroOf Try.prog 22 = some [.slice none 0 0] := by kernel_rfl
theorem hf55 : HasFn Try.prog 55 := ⟨_, _, Try.func55, rfl, by kernel_rfl⟩
theorem fo168_0 : fieldOff Try.prog 168 0 = some 0 := by kernel_rfl
theorem fo168_1 : fieldOff Try.prog 168 1 = some 1 := by kernel_rfl
theorem fp168 : fieldPlaces Try.prog 168 = some [(0, 1), (1, 1)] := by kernel_rfl
theorem ze168 : zeroOf Try.prog 168 = some [.slice none 0 0, .int .i64 0] := by kernel_rfl
theorem fp170 : fieldPlaces Try.prog 170 = some [(0, 2), (2, 2)] := by kernel_rfl
theorem ze170 : zeroOf Try.prog 170 = some [.slice none 0 0, .int .i64 0, .slice none 0 0, .int .i64 0] := by kernel_rfl
theorem ze104 : zeroOf Try.prog 104 = some [.int .i64 0, .int .i64 0, .slice none 0 0, .slice none 0 0] := by kernel_rfl
theorem fo170_0 : fieldOff Try.prog 170 0 = some 0 := by kernel_rfl
theorem fo170_1 : fieldOff Try.prog 170 1 = some 2 := by kernel_rfl
theorem fp104 : fieldPlaces Try.prog 104 = some [(0, 1), (1, 1), (2, 1), (3, 1)] := by kernel_rfl
theorem sz104 : sizeIs Try.prog 104 = some 4 := by kernel_rfl
theorem sh104 : shp Try.prog 104 = some (some 4) := by kernel_rfl
theorem hf130 : HasFn Try.prog 130 := ⟨_, _, Try.func130, rfl, by kernel_rfl⟩
theorem hf131 : HasFn Try.prog 131 := ⟨_, _, Try.func131, rfl, by kernel_rfl⟩
theorem hf97 : HasFn Try.prog 97 := ⟨_, _, Try.func97, rfl, by kernel_rfl⟩
theorem hf98 : HasFn Try.prog 98 := ⟨_, _, Try.func98, rfl, by kernel_rfl⟩
theorem hf99 : HasFn Try.prog 99 := ⟨_, _, Try.func99, rfl, by kernel_rfl⟩
theorem hf100 : HasFn Try.prog 100 := ⟨_, _, Try.func100, rfl, by kernel_rfl⟩
theorem ze134 : zeroOf Try.prog 134 = some [.map none] := by kernel_rfl
theorem sz134 : sizeIs Try.prog 134 = some 1 := by kernel_rfl
theorem hf132 : HasFn Try.prog 132 := ⟨_, _, Try.func132, rfl, by kernel_rfl⟩
theorem hf143 : HasFn Try.prog 143 := ⟨_, _, Try.func143, rfl, by kernel_rfl⟩
theorem sh134 : shp Try.prog 134 = some none := by kernel_rfl
theorem zv3 : zeroV Try.prog 3 = some (.int .i64 0) := by kernel_rfl
theorem hf101 : HasFn Try.prog 101 := ⟨_, _, Try.func101, rfl, by kernel_rfl⟩
theorem hf102 : HasFn Try.prog 102 := ⟨_, _, Try.func102, rfl, by kernel_rfl⟩
theorem hf29 : HasFn Try.prog 29 := ⟨_, _, Try.func29, rfl, by kernel_rfl⟩
theorem hf66 : HasFn Try.prog 66 := ⟨_, _, Try.func66, rfl, by kernel_rfl⟩
theorem hf68 : HasFn Try.prog 68 := ⟨_, _, Try.func68, rfl, by kernel_rfl⟩
theorem hf70 : HasFn Try.prog 70 := ⟨_, _, Try.func70, rfl, by kernel_rfl⟩
theorem hf72 : HasFn Try.prog 72 := ⟨_, _, Try.func72, rfl, by kernel_rfl⟩
theorem sz67 : sizeIs Try.prog 67 = some 1 := by kernel_rfl
theorem ze67 : zeroOf Try.prog 67 = some [.nilFunc] := by kernel_rfl
theorem hf64 : HasFn Try.prog 64 := ⟨_, _, Try.func64, rfl, by kernel_rfl⟩
theorem hf65 : HasFn Try.prog 65 := ⟨_, _, Try.func65, rfl, by kernel_rfl⟩
theorem hf67 : HasFn Try.prog 67 := ⟨_, _, Try.func67, rfl, by kernel_rfl⟩
theorem hf69 : HasFn Try.prog 69 := ⟨_, _, Try.func69, rfl, by kernel_rfl⟩
theorem hf71 : HasFn Try.prog 71 := ⟨_, _, Try.func71, rfl, by kernel_rfl⟩
theorem hf39 : HasFn Try.prog 39 := ⟨_, _, Try.func39, rfl, by kernel_rfl⟩
theorem hf40 : HasFn Try.prog 40 := ⟨_, _, Try.func40, rfl, by kernel_rfl⟩
theorem sh67 : shp Try.prog 67 = some none := by kernel_rfl
theorem hf47 : HasFn Try.prog 47 := ⟨_, _, Try.func47, rfl, by kernel_rfl⟩
theorem hf23 : HasFn Try.prog 23 := ⟨_, _, Try.func23, rfl, by kernel_rfl⟩
theorem hf27 : HasFn Try.prog 27 := ⟨_, _, Try.func27, rfl, by kernel_rfl⟩
theorem hf75 : HasFn Try.prog 75 := ⟨_, _, Try.func75, rfl, by kernel_rfl⟩
theorem hf74 : HasFn Try.prog 74 := ⟨_, _, Try.func74, rfl, by kernel_rfl⟩
theorem hf43 : HasFn Try.prog 43 := ⟨_, _, Try.func43, rfl, by kernel_rfl⟩
theorem hf42 : HasFn Try.prog 42 := ⟨_, _, Try.func42, rfl, by kernel_rfl⟩
theorem hf103 : HasFn Try.prog 103 := ⟨_, _, Try.func103, rfl, by kernel_rfl⟩
theorem hf73 : HasFn Try.prog 73 := ⟨_, _, Try.func73, rfl, by kernel_rfl⟩
theorem hf41 : HasFn Try.prog 41 := ⟨_, _, Try.func41, rfl, by kernel_rfl⟩
theorem hf44 : HasFn Try.prog 44 := ⟨_, _, Try.func44, rfl, by kernel_rfl⟩
theorem hf24 : HasFn Try.prog 24 := ⟨_, _, Try.func24, rfl, by kernel_rfl⟩
theorem hf45 : HasFn Try.prog 45 := ⟨_, _, Try.func45, rfl, by kernel_rfl⟩
theorem hf25 : HasFn Try.prog 25 := ⟨_, _, Try.func25, rfl, by kernel_rfl⟩
theorem hf26 : HasFn Try.prog 26 := ⟨_, _, Try.func26, rfl, by kernel_rfl⟩
end Go.Proofs.Ytfncgfcehkalnaa
