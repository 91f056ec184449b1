/- Closed facts of the program. -/
import Derived.Test.YtfncgfcehkalnaaGreatProg
import Derived.Test.YtfncgfcehkalnaaGreatSx17M11
namespace Go.Proofs.YtfncgfcehkalnaaGreat
open Go.Sx Go.RowKit
theorem sz3 : sizeIs Tryz.prog 3 = some 1 := by kernel_rfl
theorem sh3 : shp Tryz.prog 3 = some none := by kernel_rfl
theorem hf20 : HasFn Tryz.prog 20 := ⟨_, _, Tryz.func20, rfl, by kernel_rfl⟩
theorem hf49 : HasFn Tryz.prog 49 := ⟨_, _, Tryz.func49, rfl, by kernel_rfl⟩
theorem hf48 : HasFn Tryz.prog 48 := ⟨_, _, Tryz.func48, rfl, by kernel_rfl⟩
theorem hf47 : HasFn Tryz.prog 47 := ⟨_, _, Tryz.func47, rfl, by kernel_rfl⟩
theorem ze3 : zeroOf Tryz.prog 3 = some [.int .i64 0] := by kernel_rfl
theorem el3 : elemIs Tryz.prog 3 1 8 := elemIs_of (by kernel_rfl)
theorem hmix : Tryz.prog.follows .mixedOrders = true := by kernel_rfl
theorem zv144 : zeroV Tryz.prog 144 = some (.agg #[]) := by kernel_rfl
theorem ze144 : zeroOf Tryz.prog 144 = some [] := by kernel_rfl
theorem sz144 : sizeIs Tryz.prog 144 = some 0 := by kernel_rfl
theorem fp144 : fieldPlaces Tryz.prog 144 = some [] := by kernel_rfl
theorem fo44_0 : fieldOff Tryz.prog 44 0 = some 0 := by kernel_rfl
theorem hf63 : HasFn Tryz.prog 63 := ⟨_, _, Tryz.func63, rfl, by kernel_rfl⟩
theorem fo44_1 : fieldOff Tryz.prog 44 1 = some 1 := by kernel_rfl
theorem sh22 : shp Tryz.prog 22 = some none := by kernel_rfl
theorem hf71 : HasFn Tryz.prog 71 := ⟨_, _, Tryz.func71, rfl, by kernel_rfl⟩
theorem hf72 : HasFn Tryz.prog 72 := ⟨_, _, Tryz.func72, rfl, by kernel_rfl⟩
theorem fp44 : fieldPlaces Tryz.prog 44 = some [(0, 1), (1, 1)] := by kernel_rfl
theorem ze44 : zeroOf Tryz.prog 44 = some [.int .i64 0, .slice none 0 0] := by kernel_rfl
theorem fp90 : fieldPlaces Tryz.prog 90 = some [(0, 2)] := by kernel_rfl
theorem ze90 : zeroOf Tryz.prog 90 = some [.int .i64 0, .slice none 0 0] := by kernel_rfl
theorem fo90_0 : fieldOff Tryz.prog 90 0 = some 0 := by kernel_rfl
theorem hf73 : HasFn Tryz.prog 73 := ⟨_, _, Tryz.func73, rfl, by kernel_rfl⟩
theorem hf74 : HasFn Tryz.prog 74 := ⟨_, _, Tryz.func74, rfl, by kernel_rfl⟩
theorem sz22 : sizeIs Tryz.prog 22 = some 1 := by kernel_rfl
theorem hf75 : HasFn Tryz.prog 75 := ⟨_, _, Tryz.func75, rfl, by kernel_rfl⟩
theorem sh44 : shp Tryz.prog 44 = some (some 2) := by kernel_rfl
theorem hf50 : HasFn Tryz.prog 50 := ⟨_, _, Tryz.func50, rfl, by kernel_rfl⟩
theorem hf29 : HasFn Tryz.prog 29 := ⟨_, _, Tryz.func29, rfl, by kernel_rfl⟩
theorem sz44 : sizeIs Tryz.prog 44 = some 2 := by kernel_rfl
theorem hf51 : HasFn Tryz.prog 51 := ⟨_, _, Tryz.func51, rfl, by kernel_rfl⟩
theorem hf52 : HasFn Tryz.prog 52 := ⟨_, _, Tryz.func52, rfl, by kernel_rfl⟩
theorem sz118 : sizeIs Tryz.prog 118 = some 2 := by kernel_rfl
theorem ze118 : zeroOf Tryz.prog 118 = some [.int .i64 0, .int .i64 0] := by kernel_rfl
theorem el118 : elemIs Tryz.prog 118 2 16 := elemIs_of (by kernel_rfl)
theorem sh118 : shp Tryz.prog 118 = some (some 2) := by kernel_rfl
theorem hf84 : HasFn Tryz.prog 84 := ⟨_, _, Tryz.func84, rfl, by kernel_rfl⟩
theorem fo118_1 : fieldOff Tryz.prog 118 1 = some 1 := by kernel_rfl
theorem fo54_0 : fieldOff Tryz.prog 54 0 = some 0 := by kernel_rfl
theorem fo54_1 : fieldOff Tryz.prog 54 1 = some 1 := by kernel_rfl
theorem sh52 : shp Tryz.prog 52 = some none := by kernel_rfl
theorem fo118_0 : fieldOff Tryz.prog 118 0 = some 0 := by kernel_rfl
theorem hf82 : HasFn Tryz.prog 82 := ⟨_, _, Tryz.func82, rfl, by kernel_rfl⟩
theorem hf81 : HasFn Tryz.prog 81 := ⟨_, _, Tryz.func81, rfl, by kernel_rfl⟩
theorem hf83 : HasFn Tryz.prog 83 := ⟨_, _, Tryz.func83, rfl, by kernel_rfl⟩
theorem sz52 : sizeIs Tryz.prog 52 = some 1 := by kernel_rfl
theorem sh54 : shp Tryz.prog 54 = some (some 2) := by kernel_rfl
theorem fp100 : fieldPlaces Tryz.prog 100 = some [(0, 2)] := by kernel_rfl
theorem ze100 : zeroOf Tryz.prog 100 = some [.int .i64 0, .slice none 0 0] := by kernel_rfl
theorem fo100_0 : fieldOff Tryz.prog 100 0 = some 0 := by kernel_rfl
theorem hf96 : HasFn Tryz.prog 96 := ⟨_, _, Tryz.func96, rfl, by kernel_rfl⟩
theorem hf85 : HasFn Tryz.prog 85 := ⟨_, _, Tryz.func85, rfl, by kernel_rfl⟩
theorem fp118 : fieldPlaces Tryz.prog 118 = some [(0, 1), (1, 1)] := by kernel_rfl
theorem hf86 : HasFn Tryz.prog 86 := ⟨_, _, Tryz.func86, rfl, by kernel_rfl⟩
theorem hf88 : HasFn Tryz.prog 88 := ⟨_, _, Tryz.func88, rfl, by kernel_rfl⟩
theorem hf87 : HasFn Tryz.prog 87 := ⟨_, _, Tryz.func87, rfl, by kernel_rfl⟩
theorem fc118_0 : fieldCell Tryz.prog 118 0 = some 0 := by kernel_rfl
theorem ze54 : zeroOf Tryz.prog 54 = some [.int .i64 0, .slice none 0 0] := by kernel_rfl
theorem hf56 : HasFn Tryz.prog 56 := ⟨_, _, Tryz.func56, rfl, by kernel_rfl⟩
theorem fp54 : fieldPlaces Tryz.prog 54 = some [(0, 1), (1, 1)] := by kernel_rfl
theorem sz54 : sizeIs Tryz.prog 54 = some 2 := by kernel_rfl
theorem hf57 : HasFn Tryz.prog 57 := ⟨_, _, Tryz.func57, rfl, by kernel_rfl⟩
theorem hf58 : HasFn Tryz.prog 58 := ⟨_, _, Tryz.func58, rfl, by kernel_rfl⟩
theorem sz116 : sizeIs Tryz.prog 116 = some 2 := by kernel_rfl
theorem ze116 : zeroOf Tryz.prog 116 = some [.int .i64 0, .bool false] := by kernel_rfl
theorem el116 : elemIs Tryz.prog 116 2 16 := elemIs_of (by kernel_rfl)
theorem sh116 : shp Tryz.prog 116 = some (some 2) := by kernel_rfl
theorem fo116_0 : fieldOff Tryz.prog 116 0 = some 0 := by kernel_rfl
theorem fo95_0 : fieldOff Tryz.prog 95 0 = some 0 := by kernel_rfl
theorem fo49_1 : fieldOff Tryz.prog 49 1 = some 1 := by kernel_rfl
theorem fo49_2 : fieldOff Tryz.prog 49 2 = some 2 := by kernel_rfl
theorem sh47 : shp Tryz.prog 47 = some none := by kernel_rfl
theorem fo49_0 : fieldOff Tryz.prog 49 0 = some 0 := by kernel_rfl
theorem hf76 : HasFn Tryz.prog 76 := ⟨_, _, Tryz.func76, rfl, by kernel_rfl⟩
theorem hf77 : HasFn Tryz.prog 77 := ⟨_, _, Tryz.func77, rfl, by kernel_rfl⟩
theorem sz47 : sizeIs Tryz.prog 47 = some 1 := by kernel_rfl
theorem sh49 : shp Tryz.prog 49 = some (some 3) := by kernel_rfl
theorem fp95 : fieldPlaces Tryz.prog 95 = some [(0, 3)] := by kernel_rfl
theorem ze95 : zeroOf Tryz.prog 95 = some [.int .i64 0, .int .i64 0, .slice none 0 0] := by kernel_rfl
theorem hf79 : HasFn Tryz.prog 79 := ⟨_, _, Tryz.func79, rfl, by kernel_rfl⟩
theorem hf78 : HasFn Tryz.prog 78 := ⟨_, _, Tryz.func78, rfl, by kernel_rfl⟩
theorem fo116_1 : fieldOff Tryz.prog 116 1 = some 1 := by kernel_rfl
theorem sz4 : sizeIs Tryz.prog 4 = some 1 := by kernel_rfl
theorem fp116 : fieldPlaces Tryz.prog 116 = some [(0, 1), (1, 1)] := by kernel_rfl
theorem sh4 : shp Tryz.prog 4 = some none := by kernel_rfl
theorem hf80 : HasFn Tryz.prog 80 := ⟨_, _, Tryz.func80, rfl, by kernel_rfl⟩
theorem ze49 : zeroOf Tryz.prog 49 = some [.int .i64 0, .int .i64 0, .slice none 0 0] := by kernel_rfl
theorem hf53 : HasFn Tryz.prog 53 := ⟨_, _, Tryz.func53, rfl, by kernel_rfl⟩
theorem fp49 : fieldPlaces Tryz.prog 49 = some [(0, 1), (1, 1), (2, 1)] := by kernel_rfl
theorem sz49 : sizeIs Tryz.prog 49 = some 3 := by kernel_rfl
theorem hf54 : HasFn Tryz.prog 54 := ⟨_, _, Tryz.func54, rfl, by kernel_rfl⟩
theorem hf55 : HasFn Tryz.prog 55 := ⟨_, _, Tryz.func55, rfl, by kernel_rfl⟩
theorem hf99 : HasFn Tryz.prog 99 := ⟨_, _, Tryz.func99, rfl, by kernel_rfl⟩
theorem fo58_0 : fieldOff Tryz.prog 58 0 = some 0 := by kernel_rfl
theorem fo58_1 : fieldOff Tryz.prog 58 1 = some 1 := by kernel_rfl
theorem fo58_2 : fieldOff Tryz.prog 58 2 = some 2 := by kernel_rfl
theorem fo58_3 : fieldOff Tryz.prog 58 3 = some 3 := by kernel_rfl
theorem ze22 : zeroOf Tryz.prog 22 = some [.slice none 0 0] := by kernel_rfl
theorem hf89 : HasFn Tryz.prog 89 := ⟨_, _, Tryz.func89, rfl, by kernel_rfl⟩
theorem fo135_0 : fieldOff Tryz.prog 135 0 = some 0 := by kernel_rfl
theorem fo135_1 : fieldOff Tryz.prog 135 1 = some 1 := by kernel_rfl
theorem fp135 : fieldPlaces Tryz.prog 135 = some [(0, 1), (1, 1)] := by kernel_rfl
theorem ze135 : zeroOf Tryz.prog 135 = some [.slice none 0 0, .int .i64 0] := by kernel_rfl
theorem fp137 : fieldPlaces Tryz.prog 137 = some [(0, 2), (2, 2)] := by kernel_rfl
theorem ze137 : zeroOf Tryz.prog 137 = some [.slice none 0 0, .int .i64 0, .slice none 0 0, .int .i64 0] := by kernel_rfl
theorem ze58 : zeroOf Tryz.prog 58 = some [.int .i64 0, .int .i64 0, .slice none 0 0, .slice none 0 0] := by kernel_rfl
theorem fo137_0 : fieldOff Tryz.prog 137 0 = some 0 := by kernel_rfl
theorem fo137_1 : fieldOff Tryz.prog 137 1 = some 2 := by kernel_rfl
theorem fp58 : fieldPlaces Tryz.prog 58 = some [(0, 1), (1, 1), (2, 1), (3, 1)] := by kernel_rfl
theorem sz58 : sizeIs Tryz.prog 58 = some 4 := by kernel_rfl
theorem sh58 : shp Tryz.prog 58 = some (some 4) := by kernel_rfl
theorem hf90 : HasFn Tryz.prog 90 := ⟨_, _, Tryz.func90, rfl, by kernel_rfl⟩
theorem hf91 : HasFn Tryz.prog 91 := ⟨_, _, Tryz.func91, rfl, by kernel_rfl⟩
theorem hf59 : HasFn Tryz.prog 59 := ⟨_, _, Tryz.func59, rfl, by kernel_rfl⟩
theorem hf60 : HasFn Tryz.prog 60 := ⟨_, _, Tryz.func60, rfl, by kernel_rfl⟩
theorem hf61 : HasFn Tryz.prog 61 := ⟨_, _, Tryz.func61, rfl, by kernel_rfl⟩
theorem hf62 : HasFn Tryz.prog 62 := ⟨_, _, Tryz.func62, rfl, by kernel_rfl⟩
theorem ze108 : zeroOf Tryz.prog 108 = some [.map none] := by kernel_rfl
theorem sz108 : sizeIs Tryz.prog 108 = some 1 := by kernel_rfl
theorem hf92 : HasFn Tryz.prog 92 := ⟨_, _, Tryz.func92, rfl, by kernel_rfl⟩
theorem hf100 : HasFn Tryz.prog 100 := ⟨_, _, Tryz.func100, rfl, by kernel_rfl⟩
theorem sh108 : shp Tryz.prog 108 = some none := by kernel_rfl
theorem zv3 : zeroV Tryz.prog 3 = some (.int .i64 0) := by kernel_rfl
theorem hf64 : HasFn Tryz.prog 64 := ⟨_, _, Tryz.func64, rfl, by kernel_rfl⟩
theorem hf65 : HasFn Tryz.prog 65 := ⟨_, _, Tryz.func65, rfl, by kernel_rfl⟩
theorem hf31 : HasFn Tryz.prog 31 := ⟨_, _, Tryz.func31, rfl, by kernel_rfl⟩
theorem hf33 : HasFn Tryz.prog 33 := ⟨_, _, Tryz.func33, rfl, by kernel_rfl⟩
theorem hf35 : HasFn Tryz.prog 35 := ⟨_, _, Tryz.func35, rfl, by kernel_rfl⟩
theorem hf37 : HasFn Tryz.prog 37 := ⟨_, _, Tryz.func37, rfl, by kernel_rfl⟩
theorem hf39 : HasFn Tryz.prog 39 := ⟨_, _, Tryz.func39, rfl, by kernel_rfl⟩
theorem sz37 : sizeIs Tryz.prog 37 = some 1 := by kernel_rfl
theorem ze37 : zeroOf Tryz.prog 37 = some [.nilFunc] := by kernel_rfl
theorem hf30 : HasFn Tryz.prog 30 := ⟨_, _, Tryz.func30, rfl, by kernel_rfl⟩
theorem hf32 : HasFn Tryz.prog 32 := ⟨_, _, Tryz.func32, rfl, by kernel_rfl⟩
theorem hf34 : HasFn Tryz.prog 34 := ⟨_, _, Tryz.func34, rfl, by kernel_rfl⟩
theorem hf36 : HasFn Tryz.prog 36 := ⟨_, _, Tryz.func36, rfl, by kernel_rfl⟩
theorem hf38 : HasFn Tryz.prog 38 := ⟨_, _, Tryz.func38, rfl, by kernel_rfl⟩
theorem hf14 : HasFn Tryz.prog 14 := ⟨_, _, Tryz.func14, rfl, by kernel_rfl⟩
theorem hf15 : HasFn Tryz.prog 15 := ⟨_, _, Tryz.func15, rfl, by kernel_rfl⟩
theorem sh37 : shp Tryz.prog 37 = some none := by kernel_rfl
theorem hf19 : HasFn Tryz.prog 19 := ⟨_, _, Tryz.func19, rfl, by kernel_rfl⟩
theorem hf5 : HasFn Tryz.prog 5 := ⟨_, _, Tryz.func5, rfl, by kernel_rfl⟩
theorem hf13 : HasFn Tryz.prog 13 := ⟨_, _, Tryz.func13, rfl, by kernel_rfl⟩
theorem hf21 : HasFn Tryz.prog 21 := ⟨_, _, Tryz.func21, rfl, by kernel_rfl⟩
theorem hf41 : HasFn Tryz.prog 41 := ⟨_, _, Tryz.func41, rfl, by kernel_rfl⟩
theorem hf18 : HasFn Tryz.prog 18 := ⟨_, _, Tryz.func18, rfl, by kernel_rfl⟩
theorem hf17 : HasFn Tryz.prog 17 := ⟨_, _, Tryz.func17, rfl, by kernel_rfl⟩
theorem hf66 : HasFn Tryz.prog 66 := ⟨_, _, Tryz.func66, rfl, by kernel_rfl⟩
theorem hf40 : HasFn Tryz.prog 40 := ⟨_, _, Tryz.func40, rfl, by kernel_rfl⟩
theorem hf16 : HasFn Tryz.prog 16 := ⟨_, _, Tryz.func16, rfl, by kernel_rfl⟩
theorem hf28 : HasFn Tryz.prog 28 := ⟨_, _, Tryz.func28, rfl, by kernel_rfl⟩
theorem hf6 : HasFn Tryz.prog 6 := ⟨_, _, Tryz.func6, rfl, by kernel_rfl⟩
theorem hf7 : HasFn Tryz.prog 7 := ⟨_, _, Tryz.func7, rfl, by kernel_rfl⟩
theorem hf22 : HasFn Tryz.prog 22 := ⟨_, _, Tryz.func22, rfl, by kernel_rfl⟩
theorem hf10 : HasFn Tryz.prog 10 := ⟨_, _, Tryz.func10, rfl, by kernel_rfl⟩
theorem hf42 : HasFn Tryz.prog 42 := ⟨_, _, Tryz.func42, rfl, by kernel_rfl⟩
theorem hf68 : HasFn Tryz.prog 68 := ⟨_, _, Tryz.func68, rfl, by kernel_rfl⟩
theorem hf43 : HasFn Tryz.prog 43 := ⟨_, _, Tryz.func43, rfl, by kernel_rfl⟩
theorem hf69 : HasFn Tryz.prog 69 := ⟨_, _, Tryz.func69, rfl, by kernel_rfl⟩
theorem hf44 : HasFn Tryz.prog 44 := ⟨_, _, Tryz.func44, rfl, by kernel_rfl⟩
theorem hf70 : HasFn Tryz.prog 70 := ⟨_, _, Tryz.func70, rfl, by kernel_rfl⟩
theorem hf45 : HasFn Tryz.prog 45 := ⟨_, _, Tryz.func45, rfl, by kernel_rfl⟩
theorem hf46 : HasFn Tryz.prog 46 := ⟨_, _, Tryz.func46, rfl, by kernel_rfl⟩
theorem hf23 : HasFn Tryz.prog 23 := ⟨_, _, Tryz.func23, rfl, by kernel_rfl⟩
theorem hf24 : HasFn Tryz.prog 24 := ⟨_, _, Tryz.func24, rfl, by kernel_rfl⟩
theorem hf25 : HasFn Tryz.prog 25 := ⟨_, _, Tryz.func25, rfl, by kernel_rfl⟩
theorem hf26 : HasFn Tryz.prog 26 := ⟨_, _, Tryz.func26, rfl, by kernel_rfl⟩
theorem hf27 : HasFn Tryz.prog 27 := ⟨_, _, Tryz.func27, rfl, by kernel_rfl⟩
theorem hf8 : HasFn Tryz.prog 8 := ⟨_, _, Tryz.func8, rfl, by kernel_rfl⟩
theorem hf9 : HasFn Tryz.prog 9 := ⟨_, _, Tryz.func9, rfl, by kernel_rfl⟩
theorem hf11 : HasFn Tryz.prog 11 := ⟨_, _, Tryz.func11, rfl, by kernel_rfl⟩
theorem hf12 : HasFn Tryz.prog 12 := ⟨_, _, Tryz.func12, rfl, by kernel_rfl⟩
end Go.Proofs.YtfncgfcehkalnaaGreat
