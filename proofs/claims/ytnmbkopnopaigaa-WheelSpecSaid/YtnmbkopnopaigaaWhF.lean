/- Closed facts of the program. -/
import Derived.Test.YtnmbkopnopaigaaProg
import Derived.Test.YtnmbkopnopaigaaSx31M2
namespace Go.Proofs.Ytnmbkopnopaigaa
open Go.Sx Go.RowKit
theorem hf151 : HasFn Try.prog 151 := ⟨_, _, Try.func151, rfl, by kernel_rfl⟩
theorem hf112 : HasFn Try.prog 112 := ⟨_, _, Try.func112, rfl, by kernel_rfl⟩
theorem hf135 : HasFn Try.prog 135 := ⟨_, _, Try.func135, rfl, by kernel_rfl⟩
theorem sz3 : sizeIs Try.prog 3 = some 1 := by kernel_rfl
theorem sh3 : shp Try.prog 3 = some none := by kernel_rfl
theorem fo52_1 : fieldOff Try.prog 52 1 = some 1 := by kernel_rfl
theorem fo52_0 : fieldOff Try.prog 52 0 = some 0 := by kernel_rfl
theorem hf93 : HasFn Try.prog 93 := ⟨_, _, Try.func93, rfl, by kernel_rfl⟩
theorem ze3 : zeroOf Try.prog 3 = some [.int .i64 0] := by kernel_rfl
theorem hf113 : HasFn Try.prog 113 := ⟨_, _, Try.func113, rfl, by kernel_rfl⟩
theorem hmix : Try.prog.follows .mixedOrders = true := by kernel_rfl
theorem hf65 : HasFn Try.prog 65 := ⟨_, _, Try.func65, rfl, by kernel_rfl⟩
theorem fo50_1 : fieldOff Try.prog 50 1 = some 1 := by kernel_rfl
theorem sh48 : shp Try.prog 48 = some none := by kernel_rfl
theorem sz57 : sizeIs Try.prog 57 = some 1 := by kernel_rfl
theorem sh57 : shp Try.prog 57 = some none := by kernel_rfl
theorem sz52 : sizeIs Try.prog 52 = some 2 := by kernel_rfl
theorem sh52 : shp Try.prog 52 = some (some 2) := by kernel_rfl
theorem ze52 : zeroOf Try.prog 52 = some [.int .i64 0, .int .i64 0] := by kernel_rfl
theorem ze50 : zeroOf Try.prog 50 = some [.int .i64 0, .slice none 0 0] := by kernel_rfl
theorem fp50 : fieldPlaces Try.prog 50 = some [(0, 1), (1, 1)] := by kernel_rfl
theorem sz50 : sizeIs Try.prog 50 = some 2 := by kernel_rfl
theorem sh50 : shp Try.prog 50 = some (some 2) := by kernel_rfl
theorem el57 : elemIs Try.prog 57 1 24 := elemIs_of (by kernel_rfl)
theorem ze57 : zeroOf Try.prog 57 = some [.slice none 0 0] := by kernel_rfl
theorem hf106 : HasFn Try.prog 106 := ⟨_, _, Try.func106, rfl, by kernel_rfl⟩
theorem hf105 : HasFn Try.prog 105 := ⟨_, _, Try.func105, rfl, by kernel_rfl⟩
theorem hf72 : HasFn Try.prog 72 := ⟨_, _, Try.func72, rfl, by kernel_rfl⟩
theorem hf110 : HasFn Try.prog 110 := ⟨_, _, Try.func110, rfl, by kernel_rfl⟩
theorem ze25 : zeroOf Try.prog 25 = some [.int .i64 0] := by kernel_rfl
theorem fo50_0 : fieldOff Try.prog 50 0 = some 0 := by kernel_rfl
theorem sz25 : sizeIs Try.prog 25 = some 1 := by kernel_rfl
theorem sh25 : shp Try.prog 25 = some none := by kernel_rfl
theorem ze118 : zeroOf Try.prog 118 = some [.map none] := by kernel_rfl
theorem sz118 : sizeIs Try.prog 118 = some 1 := by kernel_rfl
theorem fp52 : fieldPlaces Try.prog 52 = some [(0, 1), (1, 1)] := by kernel_rfl
theorem sh118 : shp Try.prog 118 = some none := by kernel_rfl
theorem zv119 : zeroV Try.prog 119 = some (.agg #[]) := by kernel_rfl
theorem ze119 : zeroOf Try.prog 119 = some [] := by kernel_rfl
theorem sz119 : sizeIs Try.prog 119 = some 0 := by kernel_rfl
theorem hf66 : HasFn Try.prog 66 := ⟨_, _, Try.func66, rfl, by kernel_rfl⟩
theorem hf77 : HasFn Try.prog 77 := ⟨_, _, Try.func77, rfl, by kernel_rfl⟩
theorem hf74 : HasFn Try.prog 74 := ⟨_, _, Try.func74, rfl, by kernel_rfl⟩
theorem fp119 : fieldPlaces Try.prog 119 = some [] := by kernel_rfl
theorem hf41 : HasFn Try.prog 41 := ⟨_, _, Try.func41, rfl, by kernel_rfl⟩
theorem el52 : elemIs Try.prog 52 2 16 := elemIs_of (by kernel_rfl)
theorem hf107 : HasFn Try.prog 107 := ⟨_, _, Try.func107, rfl, by kernel_rfl⟩
theorem sz48 : sizeIs Try.prog 48 = some 1 := by kernel_rfl
theorem hf108 : HasFn Try.prog 108 := ⟨_, _, Try.func108, rfl, by kernel_rfl⟩
theorem hf109 : HasFn Try.prog 109 := ⟨_, _, Try.func109, rfl, by kernel_rfl⟩
theorem hf67 : HasFn Try.prog 67 := ⟨_, _, Try.func67, rfl, by kernel_rfl⟩
theorem hf68 : HasFn Try.prog 68 := ⟨_, _, Try.func68, rfl, by kernel_rfl⟩
theorem hf69 : HasFn Try.prog 69 := ⟨_, _, Try.func69, rfl, by kernel_rfl⟩
theorem hf70 : HasFn Try.prog 70 := ⟨_, _, Try.func70, rfl, by kernel_rfl⟩
theorem hf71 : HasFn Try.prog 71 := ⟨_, _, Try.func71, rfl, by kernel_rfl⟩
theorem el3 : elemIs Try.prog 3 1 8 := elemIs_of (by kernel_rfl)
theorem hf114 : HasFn Try.prog 114 := ⟨_, _, Try.func114, rfl, by kernel_rfl⟩
theorem hf59 : HasFn Try.prog 59 := ⟨_, _, Try.func59, rfl, by kernel_rfl⟩
theorem eqS52 {x0 y0 : Int} {x1 y1 : Int} : EqS Try.prog 52 [.int .i64 x0, .int .i64 x1] [.int .i64 y0, .int .i64 y1] ((x0 == y0) && (x1 == y1)) := EqS.mk' (by kernel_rfl) Try.underlying52 (by kernel_rfl) (FE.int (by decide) Try.underlying3 rfl rfl (FE.int1 (by decide) Try.underlying3 rfl rfl))
theorem hf43 : HasFn Try.prog 43 := ⟨_, _, Try.func43, rfl, by kernel_rfl⟩
theorem hf76 : HasFn Try.prog 76 := ⟨_, _, Try.func76, rfl, by kernel_rfl⟩
theorem hf37 : HasFn Try.prog 37 := ⟨_, _, Try.func37, rfl, by kernel_rfl⟩
theorem hf75 : HasFn Try.prog 75 := ⟨_, _, Try.func75, rfl, by kernel_rfl⟩
theorem hf38 : HasFn Try.prog 38 := ⟨_, _, Try.func38, rfl, by kernel_rfl⟩
theorem hf73 : HasFn Try.prog 73 := ⟨_, _, Try.func73, rfl, by kernel_rfl⟩
theorem hf29 : HasFn Try.prog 29 := ⟨_, _, Try.func29, rfl, by kernel_rfl⟩
theorem hf30 : HasFn Try.prog 30 := ⟨_, _, Try.func30, rfl, by kernel_rfl⟩
theorem hf33 : HasFn Try.prog 33 := ⟨_, _, Try.func33, rfl, by kernel_rfl⟩
theorem hf32 : HasFn Try.prog 32 := ⟨_, _, Try.func32, rfl, by kernel_rfl⟩
theorem hf31 : HasFn Try.prog 31 := ⟨_, _, Try.func31, rfl, by kernel_rfl⟩
theorem hf40 : HasFn Try.prog 40 := ⟨_, _, Try.func40, rfl, by kernel_rfl⟩
theorem hf42 : HasFn Try.prog 42 := ⟨_, _, Try.func42, rfl, by kernel_rfl⟩
theorem hf34 : HasFn Try.prog 34 := ⟨_, _, Try.func34, rfl, by kernel_rfl⟩
theorem hf35 : HasFn Try.prog 35 := ⟨_, _, Try.func35, rfl, by kernel_rfl⟩
theorem hf36 : HasFn Try.prog 36 := ⟨_, _, Try.func36, rfl, by kernel_rfl⟩
theorem hf39 : HasFn Try.prog 39 := ⟨_, _, Try.func39, rfl, by kernel_rfl⟩
end Go.Proofs.Ytnmbkopnopaigaa
