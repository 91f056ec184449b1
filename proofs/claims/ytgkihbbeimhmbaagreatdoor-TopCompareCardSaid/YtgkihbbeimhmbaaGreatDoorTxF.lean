/- Closed facts of the program. -/
import Derived.Test.YtgkihbbeimhmbaaGreatDoorProg
import Derived.Test.YtgkihbbeimhmbaaGreatDoorSx31M4
namespace Go.Proofs.YtgkihbbeimhmbaaGreatDoor
open Go.Sx Go.RowKit
theorem sz3 : sizeIs Tryz.prog 3 = some 1 := by kernel_rfl
theorem sh3 : shp Tryz.prog 3 = some none := by kernel_rfl
theorem hf69 : HasFn Tryz.prog 69 := ⟨_, _, Tryz.func69, rfl, by kernel_rfl⟩
theorem hf26 : HasFn Tryz.prog 26 := ⟨_, _, Tryz.func26, rfl, by kernel_rfl⟩
theorem hf39 : HasFn Tryz.prog 39 := ⟨_, _, Tryz.func39, rfl, by kernel_rfl⟩
theorem hf38 : HasFn Tryz.prog 38 := ⟨_, _, Tryz.func38, rfl, by kernel_rfl⟩
theorem ze3 : zeroOf Tryz.prog 3 = some [.int .i64 0] := by kernel_rfl
theorem el3 : elemIs Tryz.prog 3 1 8 := elemIs_of (by kernel_rfl)
theorem hmix : Tryz.prog.follows .mixedOrders = true := by kernel_rfl
theorem zv118 : zeroV Tryz.prog 118 = some (.agg #[]) := by kernel_rfl
theorem ze118 : zeroOf Tryz.prog 118 = some [] := by kernel_rfl
theorem sz118 : sizeIs Tryz.prog 118 = some 0 := by kernel_rfl
theorem fp118 : fieldPlaces Tryz.prog 118 = some [] := by kernel_rfl
theorem fo33_0 : fieldOff Tryz.prog 33 0 = some 0 := by kernel_rfl
theorem hf36 : HasFn Tryz.prog 36 := ⟨_, _, Tryz.func36, rfl, by kernel_rfl⟩
theorem fo33_1 : fieldOff Tryz.prog 33 1 = some 1 := by kernel_rfl
theorem sh26 : shp Tryz.prog 26 = some none := by kernel_rfl
theorem hf37 : HasFn Tryz.prog 37 := ⟨_, _, Tryz.func37, rfl, by kernel_rfl⟩
theorem hf40 : HasFn Tryz.prog 40 := ⟨_, _, Tryz.func40, rfl, by kernel_rfl⟩
theorem fp33 : fieldPlaces Tryz.prog 33 = some [(0, 1), (1, 1)] := by kernel_rfl
theorem ze33 : zeroOf Tryz.prog 33 = some [.int .i64 0, .slice none 0 0] := by kernel_rfl
theorem fp53 : fieldPlaces Tryz.prog 53 = some [(0, 2)] := by kernel_rfl
theorem ze53 : zeroOf Tryz.prog 53 = some [.int .i64 0, .slice none 0 0] := by kernel_rfl
theorem fo53_0 : fieldOff Tryz.prog 53 0 = some 0 := by kernel_rfl
theorem hf41 : HasFn Tryz.prog 41 := ⟨_, _, Tryz.func41, rfl, by kernel_rfl⟩
theorem hf42 : HasFn Tryz.prog 42 := ⟨_, _, Tryz.func42, rfl, by kernel_rfl⟩
theorem sz26 : sizeIs Tryz.prog 26 = some 1 := by kernel_rfl
theorem hf43 : HasFn Tryz.prog 43 := ⟨_, _, Tryz.func43, rfl, by kernel_rfl⟩
theorem sh33 : shp Tryz.prog 33 = some (some 2) := by kernel_rfl
theorem hf16 : HasFn Tryz.prog 16 := ⟨_, _, Tryz.func16, rfl, by kernel_rfl⟩
theorem hf17 : HasFn Tryz.prog 17 := ⟨_, _, Tryz.func17, rfl, by kernel_rfl⟩
theorem sz33 : sizeIs Tryz.prog 33 = some 2 := by kernel_rfl
theorem hf18 : HasFn Tryz.prog 18 := ⟨_, _, Tryz.func18, rfl, by kernel_rfl⟩
theorem hf19 : HasFn Tryz.prog 19 := ⟨_, _, Tryz.func19, rfl, by kernel_rfl⟩
theorem sz141 : sizeIs Tryz.prog 141 = some 2 := by kernel_rfl
theorem ze141 : zeroOf Tryz.prog 141 = some [.int .i64 0, .int .i64 0] := by kernel_rfl
theorem el141 : elemIs Tryz.prog 141 2 16 := elemIs_of (by kernel_rfl)
theorem sh141 : shp Tryz.prog 141 = some (some 2) := by kernel_rfl
theorem hf99 : HasFn Tryz.prog 99 := ⟨_, _, Tryz.func99, rfl, by kernel_rfl⟩
theorem fo141_1 : fieldOff Tryz.prog 141 1 = some 1 := by kernel_rfl
theorem fo67_0 : fieldOff Tryz.prog 67 0 = some 0 := by kernel_rfl
theorem fo67_1 : fieldOff Tryz.prog 67 1 = some 1 := by kernel_rfl
theorem sh65 : shp Tryz.prog 65 = some none := by kernel_rfl
theorem fo141_0 : fieldOff Tryz.prog 141 0 = some 0 := by kernel_rfl
theorem hf97 : HasFn Tryz.prog 97 := ⟨_, _, Tryz.func97, rfl, by kernel_rfl⟩
theorem hf96 : HasFn Tryz.prog 96 := ⟨_, _, Tryz.func96, rfl, by kernel_rfl⟩
theorem hf98 : HasFn Tryz.prog 98 := ⟨_, _, Tryz.func98, rfl, by kernel_rfl⟩
theorem sz65 : sizeIs Tryz.prog 65 = some 1 := by kernel_rfl
theorem sh67 : shp Tryz.prog 67 = some (some 2) := by kernel_rfl
theorem fp106 : fieldPlaces Tryz.prog 106 = some [(0, 2)] := by kernel_rfl
theorem ze106 : zeroOf Tryz.prog 106 = some [.int .i64 0, .slice none 0 0] := by kernel_rfl
theorem fo106_0 : fieldOff Tryz.prog 106 0 = some 0 := by kernel_rfl
theorem hf125 : HasFn Tryz.prog 125 := ⟨_, _, Tryz.func125, rfl, by kernel_rfl⟩
theorem hf100 : HasFn Tryz.prog 100 := ⟨_, _, Tryz.func100, rfl, by kernel_rfl⟩
theorem fp141 : fieldPlaces Tryz.prog 141 = some [(0, 1), (1, 1)] := by kernel_rfl
theorem hf101 : HasFn Tryz.prog 101 := ⟨_, _, Tryz.func101, rfl, by kernel_rfl⟩
theorem hf103 : HasFn Tryz.prog 103 := ⟨_, _, Tryz.func103, rfl, by kernel_rfl⟩
theorem hf102 : HasFn Tryz.prog 102 := ⟨_, _, Tryz.func102, rfl, by kernel_rfl⟩
theorem fc141_0 : fieldCell Tryz.prog 141 0 = some 0 := by kernel_rfl
theorem ze67 : zeroOf Tryz.prog 67 = some [.int .i64 0, .slice none 0 0] := by kernel_rfl
theorem hf60 : HasFn Tryz.prog 60 := ⟨_, _, Tryz.func60, rfl, by kernel_rfl⟩
theorem fp67 : fieldPlaces Tryz.prog 67 = some [(0, 1), (1, 1)] := by kernel_rfl
theorem sz67 : sizeIs Tryz.prog 67 = some 2 := by kernel_rfl
theorem hf61 : HasFn Tryz.prog 61 := ⟨_, _, Tryz.func61, rfl, by kernel_rfl⟩
theorem hf62 : HasFn Tryz.prog 62 := ⟨_, _, Tryz.func62, rfl, by kernel_rfl⟩
theorem sz137 : sizeIs Tryz.prog 137 = some 2 := by kernel_rfl
theorem ze137 : zeroOf Tryz.prog 137 = some [.int .i64 0, .bool false] := by kernel_rfl
theorem el137 : elemIs Tryz.prog 137 2 16 := elemIs_of (by kernel_rfl)
theorem sh137 : shp Tryz.prog 137 = some (some 2) := by kernel_rfl
theorem fo137_0 : fieldOff Tryz.prog 137 0 = some 0 := by kernel_rfl
theorem fo101_0 : fieldOff Tryz.prog 101 0 = some 0 := by kernel_rfl
theorem fo62_1 : fieldOff Tryz.prog 62 1 = some 1 := by kernel_rfl
theorem fo62_2 : fieldOff Tryz.prog 62 2 = some 2 := by kernel_rfl
theorem sh60 : shp Tryz.prog 60 = some none := by kernel_rfl
theorem fo62_0 : fieldOff Tryz.prog 62 0 = some 0 := by kernel_rfl
theorem hf91 : HasFn Tryz.prog 91 := ⟨_, _, Tryz.func91, rfl, by kernel_rfl⟩
theorem hf92 : HasFn Tryz.prog 92 := ⟨_, _, Tryz.func92, rfl, by kernel_rfl⟩
theorem sz60 : sizeIs Tryz.prog 60 = some 1 := by kernel_rfl
theorem sh62 : shp Tryz.prog 62 = some (some 3) := by kernel_rfl
theorem fp101 : fieldPlaces Tryz.prog 101 = some [(0, 3)] := by kernel_rfl
theorem ze101 : zeroOf Tryz.prog 101 = some [.int .i64 0, .int .i64 0, .slice none 0 0] := by kernel_rfl
theorem hf94 : HasFn Tryz.prog 94 := ⟨_, _, Tryz.func94, rfl, by kernel_rfl⟩
theorem hf93 : HasFn Tryz.prog 93 := ⟨_, _, Tryz.func93, rfl, by kernel_rfl⟩
theorem fo137_1 : fieldOff Tryz.prog 137 1 = some 1 := by kernel_rfl
theorem sz4 : sizeIs Tryz.prog 4 = some 1 := by kernel_rfl
theorem fp137 : fieldPlaces Tryz.prog 137 = some [(0, 1), (1, 1)] := by kernel_rfl
theorem sh4 : shp Tryz.prog 4 = some none := by kernel_rfl
theorem hf95 : HasFn Tryz.prog 95 := ⟨_, _, Tryz.func95, rfl, by kernel_rfl⟩
theorem ze62 : zeroOf Tryz.prog 62 = some [.int .i64 0, .int .i64 0, .slice none 0 0] := by kernel_rfl
theorem hf57 : HasFn Tryz.prog 57 := ⟨_, _, Tryz.func57, rfl, by kernel_rfl⟩
theorem fp62 : fieldPlaces Tryz.prog 62 = some [(0, 1), (1, 1), (2, 1)] := by kernel_rfl
theorem sz62 : sizeIs Tryz.prog 62 = some 3 := by kernel_rfl
theorem hf58 : HasFn Tryz.prog 58 := ⟨_, _, Tryz.func58, rfl, by kernel_rfl⟩
theorem hf59 : HasFn Tryz.prog 59 := ⟨_, _, Tryz.func59, rfl, by kernel_rfl⟩
theorem hf128 : HasFn Tryz.prog 128 := ⟨_, _, Tryz.func128, rfl, by kernel_rfl⟩
theorem fo71_0 : fieldOff Tryz.prog 71 0 = some 0 := by kernel_rfl
theorem fo71_1 : fieldOff Tryz.prog 71 1 = some 1 := by kernel_rfl
theorem fo71_2 : fieldOff Tryz.prog 71 2 = some 2 := by kernel_rfl
theorem fo71_3 : fieldOff Tryz.prog 71 3 = some 3 := by kernel_rfl
theorem ze26 : zeroOf Tryz.prog 26 = some [.slice none 0 0] := by kernel_rfl
theorem hf104 : HasFn Tryz.prog 104 := ⟨_, _, Tryz.func104, rfl, by kernel_rfl⟩
theorem fo150_0 : fieldOff Tryz.prog 150 0 = some 0 := by kernel_rfl
theorem fo150_1 : fieldOff Tryz.prog 150 1 = some 1 := by kernel_rfl
theorem fp150 : fieldPlaces Tryz.prog 150 = some [(0, 1), (1, 1)] := by kernel_rfl
theorem ze150 : zeroOf Tryz.prog 150 = some [.slice none 0 0, .int .i64 0] := by kernel_rfl
theorem fp152 : fieldPlaces Tryz.prog 152 = some [(0, 2), (2, 2)] := by kernel_rfl
theorem ze152 : zeroOf Tryz.prog 152 = some [.slice none 0 0, .int .i64 0, .slice none 0 0, .int .i64 0] := by kernel_rfl
theorem ze71 : zeroOf Tryz.prog 71 = some [.int .i64 0, .int .i64 0, .slice none 0 0, .slice none 0 0] := by kernel_rfl
theorem fo152_0 : fieldOff Tryz.prog 152 0 = some 0 := by kernel_rfl
theorem fo152_1 : fieldOff Tryz.prog 152 1 = some 2 := by kernel_rfl
theorem fp71 : fieldPlaces Tryz.prog 71 = some [(0, 1), (1, 1), (2, 1), (3, 1)] := by kernel_rfl
theorem sz71 : sizeIs Tryz.prog 71 = some 4 := by kernel_rfl
theorem sh71 : shp Tryz.prog 71 = some (some 4) := by kernel_rfl
theorem hf105 : HasFn Tryz.prog 105 := ⟨_, _, Tryz.func105, rfl, by kernel_rfl⟩
theorem hf106 : HasFn Tryz.prog 106 := ⟨_, _, Tryz.func106, rfl, by kernel_rfl⟩
theorem hf63 : HasFn Tryz.prog 63 := ⟨_, _, Tryz.func63, rfl, by kernel_rfl⟩
theorem hf64 : HasFn Tryz.prog 64 := ⟨_, _, Tryz.func64, rfl, by kernel_rfl⟩
theorem hf65 : HasFn Tryz.prog 65 := ⟨_, _, Tryz.func65, rfl, by kernel_rfl⟩
theorem hf66 : HasFn Tryz.prog 66 := ⟨_, _, Tryz.func66, rfl, by kernel_rfl⟩
theorem ze113 : zeroOf Tryz.prog 113 = some [.map none] := by kernel_rfl
theorem sz113 : sizeIs Tryz.prog 113 = some 1 := by kernel_rfl
theorem hf107 : HasFn Tryz.prog 107 := ⟨_, _, Tryz.func107, rfl, by kernel_rfl⟩
theorem hf129 : HasFn Tryz.prog 129 := ⟨_, _, Tryz.func129, rfl, by kernel_rfl⟩
theorem sh113 : shp Tryz.prog 113 = some none := by kernel_rfl
theorem zv3 : zeroV Tryz.prog 3 = some (.int .i64 0) := by kernel_rfl
theorem hf67 : HasFn Tryz.prog 67 := ⟨_, _, Tryz.func67, rfl, by kernel_rfl⟩
theorem hf68 : HasFn Tryz.prog 68 := ⟨_, _, Tryz.func68, rfl, by kernel_rfl⟩
theorem hf9 : HasFn Tryz.prog 9 := ⟨_, _, Tryz.func9, rfl, by kernel_rfl⟩
theorem hf29 : HasFn Tryz.prog 29 := ⟨_, _, Tryz.func29, rfl, by kernel_rfl⟩
theorem hf31 : HasFn Tryz.prog 31 := ⟨_, _, Tryz.func31, rfl, by kernel_rfl⟩
theorem hf33 : HasFn Tryz.prog 33 := ⟨_, _, Tryz.func33, rfl, by kernel_rfl⟩
theorem hf35 : HasFn Tryz.prog 35 := ⟨_, _, Tryz.func35, rfl, by kernel_rfl⟩
theorem sz45 : sizeIs Tryz.prog 45 = some 1 := by kernel_rfl
theorem ze45 : zeroOf Tryz.prog 45 = some [.nilFunc] := by kernel_rfl
theorem hf27 : HasFn Tryz.prog 27 := ⟨_, _, Tryz.func27, rfl, by kernel_rfl⟩
theorem hf28 : HasFn Tryz.prog 28 := ⟨_, _, Tryz.func28, rfl, by kernel_rfl⟩
theorem hf30 : HasFn Tryz.prog 30 := ⟨_, _, Tryz.func30, rfl, by kernel_rfl⟩
theorem hf32 : HasFn Tryz.prog 32 := ⟨_, _, Tryz.func32, rfl, by kernel_rfl⟩
theorem hf34 : HasFn Tryz.prog 34 := ⟨_, _, Tryz.func34, rfl, by kernel_rfl⟩
theorem hf14 : HasFn Tryz.prog 14 := ⟨_, _, Tryz.func14, rfl, by kernel_rfl⟩
theorem hf15 : HasFn Tryz.prog 15 := ⟨_, _, Tryz.func15, rfl, by kernel_rfl⟩
theorem sh45 : shp Tryz.prog 45 = some none := by kernel_rfl
theorem hf55 : HasFn Tryz.prog 55 := ⟨_, _, Tryz.func55, rfl, by kernel_rfl⟩
theorem hf56 : HasFn Tryz.prog 56 := ⟨_, _, Tryz.func56, rfl, by kernel_rfl⟩
theorem hf24 : HasFn Tryz.prog 24 := ⟨_, _, Tryz.func24, rfl, by kernel_rfl⟩
theorem hf25 : HasFn Tryz.prog 25 := ⟨_, _, Tryz.func25, rfl, by kernel_rfl⟩
theorem hf11 : HasFn Tryz.prog 11 := ⟨_, _, Tryz.func11, rfl, by kernel_rfl⟩
theorem sz9 : sizeIs Tryz.prog 9 = some 1 := by kernel_rfl
theorem sh9 : shp Tryz.prog 9 = some none := by kernel_rfl
theorem hf12 : HasFn Tryz.prog 12 := ⟨_, _, Tryz.func12, rfl, by kernel_rfl⟩
theorem hf13 : HasFn Tryz.prog 13 := ⟨_, _, Tryz.func13, rfl, by kernel_rfl⟩
theorem hf20 : HasFn Tryz.prog 20 := ⟨_, _, Tryz.func20, rfl, by kernel_rfl⟩
theorem hf21 : HasFn Tryz.prog 21 := ⟨_, _, Tryz.func21, rfl, by kernel_rfl⟩
theorem ze9 : zeroOf Tryz.prog 9 = some [.string ByteArray.empty] := by kernel_rfl
theorem el9 : elemIs Tryz.prog 9 1 16 := elemIs_of (by kernel_rfl)
theorem hf22 : HasFn Tryz.prog 22 := ⟨_, _, Tryz.func22, rfl, by kernel_rfl⟩
theorem hf6 : HasFn Tryz.prog 6 := ⟨_, _, Tryz.func6, rfl, by kernel_rfl⟩
theorem hf10 : HasFn Tryz.prog 10 := ⟨_, _, Tryz.func10, rfl, by kernel_rfl⟩
theorem hf8 : HasFn Tryz.prog 8 := ⟨_, _, Tryz.func8, rfl, by kernel_rfl⟩
theorem hf4 : HasFn Tryz.prog 4 := ⟨_, _, Tryz.func4, rfl, by kernel_rfl⟩
theorem hf5 : HasFn Tryz.prog 5 := ⟨_, _, Tryz.func5, rfl, by kernel_rfl⟩
theorem hf7 : HasFn Tryz.prog 7 := ⟨_, _, Tryz.func7, rfl, by kernel_rfl⟩
end Go.Proofs.YtgkihbbeimhmbaaGreatDoor
