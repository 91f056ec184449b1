/- Closed facts of the program. -/
import Derived.Test.YtnmbkopnopaigaaProg
import Derived.Test.YtnmbkopnopaigaaSx31M2
namespace Go.Proofs.Ytnmbkopnopaigaa
open Go.Sx Go.RowKit
theorem hf151 : HasFn Try.prog 151 := ⟨_, _, Try.func151, rfl, by kernel_rfl⟩
theorem hf112 : HasFn Try.prog 112 := ⟨_, _, Try.func112, rfl, by kernel_rfl⟩
theorem hf135 : HasFn Try.prog 135 := ⟨_, _, Try.func135, rfl, by kernel_rfl⟩
theorem sz3 : sizeIs Try.prog 3 = some 1 := by kernel_rfl
theorem sh3 : shp Try.prog 3 = some none := by kernel_rfl
theorem fo52_1 : fieldOff Try.prog 52 1 = some 1 := by kernel_rfl
theorem fo52_0 : fieldOff Try.prog 52 0 = some 0 := by kernel_rfl
theorem hf93 : HasFn Try.prog 93 := ⟨_, _, Try.func93, rfl, by kernel_rfl⟩
theorem ze3 : zeroOf Try.prog 3 = some [.int .i64 0] := by kernel_rfl
theorem hf113 : HasFn Try.prog 113 := ⟨_, _, Try.func113, rfl, by kernel_rfl⟩
theorem hmix : Try.prog.follows .mixedOrders = true := by kernel_rfl
theorem hf65 : HasFn Try.prog 65 := ⟨_, _, Try.func65, rfl, by kernel_rfl⟩
theorem fo50_1 : fieldOff Try.prog 50 1 = some 1 := by kernel_rfl
theorem sh48 : shp Try.prog 48 = some none := by kernel_rfl
theorem sz57 : sizeIs Try.prog 57 = some 1 := by kernel_rfl
theorem sh57 : shp Try.prog 57 = some none := by kernel_rfl
theorem sz52 : sizeIs Try.prog 52 = some 2 := by kernel_rfl
theorem sh52 : shp Try.prog 52 = some (some 2) := by kernel_rfl
theorem ze52 : zeroOf Try.prog 52 = some [.int .i64 0, .int .i64 0] := by kernel_rfl
theorem ze50 : zeroOf Try.prog 50 = some [.int .i64 0, .slice none 0 0] := by kernel_rfl
theorem fp50 : fieldPlaces Try.prog 50 = some [(0, 1), (1, 1)] := by kernel_rfl
theorem sz50 : sizeIs Try.prog 50 = some 2 := by kernel_rfl
theorem sh50 : shp Try.prog 50 = some (some 2) := by kernel_rfl
theorem el57 : elemIs Try.prog 57 1 24 := elemIs_of (by kernel_rfl)
theorem ze57 : zeroOf Try.prog 57 = some [.slice none 0 0] := by kernel_rfl
theorem hf106 : HasFn Try.prog 106 := ⟨_, _, Try.func106, rfl, by kernel_rfl⟩
theorem hf105 : HasFn Try.prog 105 := ⟨_, _, Try.func105, rfl, by kernel_rfl⟩
theorem hf72 : HasFn Try.prog 72 := ⟨_, _, Try.func72, rfl, by kernel_rfl⟩
theorem hf110 : HasFn Try.prog 110 := ⟨_, _, Try.func110, rfl, by kernel_rfl⟩
theorem ze25 : zeroOf Try.prog 25 = some [.int .i64 0] := by kernel_rfl
theorem fo50_0 : fieldOff Try.prog 50 0 = some 0 := by kernel_rfl
theorem sz25 : sizeIs Try.prog 25 = some 1 := by kernel_rfl
theorem sh25 : shp Try.prog 25 = some none := by kernel_rfl
theorem ze118 : zeroOf Try.prog 118 = some [.map none] := by kernel_rfl
theorem sz118 : sizeIs Try.prog 118 = some 1 := by kernel_rfl
theorem fp52 : fieldPlaces Try.prog 52 = some [(0, 1), (1, 1)] := by kernel_rfl
theorem sh118 : shp Try.prog 118 = some none := by kernel_rfl
theorem zv119 : zeroV Try.prog 119 = some (.agg #[]) := by kernel_rfl
theorem ze119 : zeroOf Try.prog 119 = some [] := by kernel_rfl
theorem sz119 : sizeIs Try.prog 119 = some 0 := by kernel_rfl
theorem hf66 : HasFn Try.prog 66 := ⟨_, _, Try.func66, rfl, by kernel_rfl⟩
theorem hf77 : HasFn Try.prog 77 := ⟨_, _, Try.func77, rfl, by kernel_rfl⟩
theorem hf74 : HasFn Try.prog 74 := ⟨_, _, Try.func74, rfl, by kernel_rfl⟩
theorem fp119 : fieldPlaces Try.prog 119 = some [] := by kernel_rfl
theorem hf41 : HasFn Try.prog 41 := ⟨_, _, Try.func41, rfl, by kernel_rfl⟩
theorem el52 : elemIs Try.prog 52 2 16 := elemIs_of (by kernel_rfl)
theorem hf107 : HasFn Try.prog 107 := ⟨_, _, Try.func107, rfl, by kernel_rfl⟩
theorem sz48 : sizeIs Try.prog 48 = some 1 := by kernel_rfl
theorem hf108 : HasFn Try.prog 108 := ⟨_, _, Try.func108, rfl, by kernel_rfl⟩
theorem hf109 : HasFn Try.prog 109 := ⟨_, _, Try.func109, rfl, by kernel_rfl⟩
theorem hf67 : HasFn Try.prog 67 := ⟨_, _, Try.func67, rfl, by kernel_rfl⟩
theorem hf68 : HasFn Try.prog 68 := ⟨_, _, Try.func68, rfl, by kernel_rfl⟩
theorem hf69 : HasFn Try.prog 69 := ⟨_, _, Try.func69, rfl, by kernel_rfl⟩
theorem hf70 : HasFn Try.prog 70 := ⟨_, _, Try.func70, rfl, by kernel_rfl⟩
theorem hf71 : HasFn Try.prog 71 := ⟨_, _, Try.func71, rfl, by kernel_rfl⟩
theorem hf73 : HasFn Try.prog 73 := ⟨_, _, Try.func73, rfl, by kernel_rfl⟩
theorem sz139 : sizeIs Try.prog 139 = some 3 := by kernel_rfl
theorem el139 : elemIs Try.prog 139 3 24 := elemIs_of (by kernel_rfl)
theorem ze139 : zeroOf Try.prog 139 = some [.int .i64 0, .int .i64 0, .int .i64 0] := by kernel_rfl
theorem sh139 : shp Try.prog 139 = some (some 3) := by kernel_rfl
theorem fo139_0 : fieldOff Try.prog 139 0 = some 0 := by kernel_rfl
theorem hf132 : HasFn Try.prog 132 := ⟨_, _, Try.func132, rfl, by kernel_rfl⟩
theorem hf131 : HasFn Try.prog 131 := ⟨_, _, Try.func131, rfl, by kernel_rfl⟩
theorem fo139_2 : fieldOff Try.prog 139 2 = some 2 := by kernel_rfl
theorem fo86_0 : fieldOff Try.prog 86 0 = some 0 := by kernel_rfl
theorem fo86_1 : fieldOff Try.prog 86 1 = some 1 := by kernel_rfl
theorem sh84 : shp Try.prog 84 = some none := by kernel_rfl
theorem hf123 : HasFn Try.prog 123 := ⟨_, _, Try.func123, rfl, by kernel_rfl⟩
theorem fo139_1 : fieldOff Try.prog 139 1 = some 1 := by kernel_rfl
theorem hf87 : HasFn Try.prog 87 := ⟨_, _, Try.func87, rfl, by kernel_rfl⟩
theorem ze86 : zeroOf Try.prog 86 = some [.int .i64 0, .slice none 0 0] := by kernel_rfl
theorem fp86 : fieldPlaces Try.prog 86 = some [(0, 1), (1, 1)] := by kernel_rfl
theorem sz86 : sizeIs Try.prog 86 = some 2 := by kernel_rfl
theorem sz84 : sizeIs Try.prog 84 = some 1 := by kernel_rfl
theorem el3 : elemIs Try.prog 3 1 8 := elemIs_of (by kernel_rfl)
theorem sh86 : shp Try.prog 86 = some (some 2) := by kernel_rfl
theorem hf90 : HasFn Try.prog 90 := ⟨_, _, Try.func90, rfl, by kernel_rfl⟩
theorem hf130 : HasFn Try.prog 130 := ⟨_, _, Try.func130, rfl, by kernel_rfl⟩
theorem hf84 : HasFn Try.prog 84 := ⟨_, _, Try.func84, rfl, by kernel_rfl⟩
theorem hf85 : HasFn Try.prog 85 := ⟨_, _, Try.func85, rfl, by kernel_rfl⟩
theorem hf88 : HasFn Try.prog 88 := ⟨_, _, Try.func88, rfl, by kernel_rfl⟩
theorem hf86 : HasFn Try.prog 86 := ⟨_, _, Try.func86, rfl, by kernel_rfl⟩
theorem fp139 : fieldPlaces Try.prog 139 = some [(0, 1), (1, 1), (2, 1)] := by kernel_rfl
theorem hf89 : HasFn Try.prog 89 := ⟨_, _, Try.func89, rfl, by kernel_rfl⟩
theorem hf92 : HasFn Try.prog 92 := ⟨_, _, Try.func92, rfl, by kernel_rfl⟩
theorem hf91 : HasFn Try.prog 91 := ⟨_, _, Try.func91, rfl, by kernel_rfl⟩
theorem fc139_2 : fieldCell Try.prog 139 2 = some 2 := by kernel_rfl
theorem hf139 : HasFn Try.prog 139 := ⟨_, _, Try.func139, rfl, by kernel_rfl⟩
theorem hf122 : HasFn Try.prog 122 := ⟨_, _, Try.func122, rfl, by kernel_rfl⟩
theorem hf103 : HasFn Try.prog 103 := ⟨_, _, Try.func103, rfl, by kernel_rfl⟩
theorem fo122_0 : fieldOff Try.prog 122 0 = some 0 := by kernel_rfl
theorem hf118 : HasFn Try.prog 118 := ⟨_, _, Try.func118, rfl, by kernel_rfl⟩
theorem fo122_1 : fieldOff Try.prog 122 1 = some 1 := by kernel_rfl
theorem sh37 : shp Try.prog 37 = some none := by kernel_rfl
theorem hf119 : HasFn Try.prog 119 := ⟨_, _, Try.func119, rfl, by kernel_rfl⟩
theorem hf95 : HasFn Try.prog 95 := ⟨_, _, Try.func95, rfl, by kernel_rfl⟩
theorem fp122 : fieldPlaces Try.prog 122 = some [(0, 1), (1, 1)] := by kernel_rfl
theorem ze122 : zeroOf Try.prog 122 = some [.int .i64 0, .slice none 0 0] := by kernel_rfl
theorem fp168 : fieldPlaces Try.prog 168 = some [(0, 2)] := by kernel_rfl
theorem ze168 : zeroOf Try.prog 168 = some [.int .i64 0, .slice none 0 0] := by kernel_rfl
theorem fo168_0 : fieldOff Try.prog 168 0 = some 0 := by kernel_rfl
theorem hf152 : HasFn Try.prog 152 := ⟨_, _, Try.func152, rfl, by kernel_rfl⟩
theorem hf153 : HasFn Try.prog 153 := ⟨_, _, Try.func153, rfl, by kernel_rfl⟩
theorem sz37 : sizeIs Try.prog 37 = some 1 := by kernel_rfl
theorem hf154 : HasFn Try.prog 154 := ⟨_, _, Try.func154, rfl, by kernel_rfl⟩
theorem sh122 : shp Try.prog 122 = some (some 2) := by kernel_rfl
theorem hf115 : HasFn Try.prog 115 := ⟨_, _, Try.func115, rfl, by kernel_rfl⟩
theorem hf81 : HasFn Try.prog 81 := ⟨_, _, Try.func81, rfl, by kernel_rfl⟩
theorem sz122 : sizeIs Try.prog 122 = some 2 := by kernel_rfl
theorem hf116 : HasFn Try.prog 116 := ⟨_, _, Try.func116, rfl, by kernel_rfl⟩
theorem hf117 : HasFn Try.prog 117 := ⟨_, _, Try.func117, rfl, by kernel_rfl⟩
theorem hf78 : HasFn Try.prog 78 := ⟨_, _, Try.func78, rfl, by kernel_rfl⟩
theorem hf79 : HasFn Try.prog 79 := ⟨_, _, Try.func79, rfl, by kernel_rfl⟩
theorem hf44 : HasFn Try.prog 44 := ⟨_, _, Try.func44, rfl, by kernel_rfl⟩
theorem hf29 : HasFn Try.prog 29 := ⟨_, _, Try.func29, rfl, by kernel_rfl⟩
theorem hf32 : HasFn Try.prog 32 := ⟨_, _, Try.func32, rfl, by kernel_rfl⟩
theorem hf47 : HasFn Try.prog 47 := ⟨_, _, Try.func47, rfl, by kernel_rfl⟩
theorem hf48 : HasFn Try.prog 48 := ⟨_, _, Try.func48, rfl, by kernel_rfl⟩
theorem hf31 : HasFn Try.prog 31 := ⟨_, _, Try.func31, rfl, by kernel_rfl⟩
theorem hf30 : HasFn Try.prog 30 := ⟨_, _, Try.func30, rfl, by kernel_rfl⟩
theorem hf49 : HasFn Try.prog 49 := ⟨_, _, Try.func49, rfl, by kernel_rfl⟩
theorem hf33 : HasFn Try.prog 33 := ⟨_, _, Try.func33, rfl, by kernel_rfl⟩
theorem hf50 : HasFn Try.prog 50 := ⟨_, _, Try.func50, rfl, by kernel_rfl⟩
end Go.Proofs.Ytnmbkopnopaigaa
