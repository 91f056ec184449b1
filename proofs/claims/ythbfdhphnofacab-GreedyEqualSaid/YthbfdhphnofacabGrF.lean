/- Closed facts of the program. -/
import Derived.Test.YthbfdhphnofacabProg
import Derived.Test.YthbfdhphnofacabSx16
namespace Go.Proofs.Ythbfdhphnofacab
open Go.Sx Go.RowKit
theorem sz3 : sizeIs Try.prog 3 = some 1 := by kernel_rfl
theorem sh3 : shp Try.prog 3 = some none := by kernel_rfl
theorem hmix : Try.prog.follows .mixedOrders = true := by kernel_rfl
theorem fo41_0 : fieldOff Try.prog 41 0 = some 0 := by kernel_rfl
theorem fo41_1 : fieldOff Try.prog 41 1 = some 1 := by kernel_rfl
theorem fo41_2 : fieldOff Try.prog 41 2 = some 2 := by kernel_rfl
theorem sz41 : sizeIs Try.prog 41 = some 4 := by kernel_rfl
theorem sh41 : shp Try.prog 41 = some (some 4) := by kernel_rfl
theorem ze41 : zeroOf Try.prog 41 = some [.int .i64 0, .int .i64 0, .int .i64 0, .int .i64 0] := by kernel_rfl
theorem fo41_3 : fieldOff Try.prog 41 3 = some 3 := by kernel_rfl
theorem el41 : elemIs Try.prog 41 4 32 := elemIs_of (by kernel_rfl)
theorem fo39_0 : fieldOff Try.prog 39 0 = some 0 := by kernel_rfl
theorem fo39_1 : fieldOff Try.prog 39 1 = some 1 := by kernel_rfl
theorem fo39_2 : fieldOff Try.prog 39 2 = some 2 := by kernel_rfl
theorem sh37 : shp Try.prog 37 = some none := by kernel_rfl
theorem zv115 : zeroV Try.prog 115 = some (.agg #[]) := by kernel_rfl
theorem ze115 : zeroOf Try.prog 115 = some [] := by kernel_rfl
theorem sz115 : sizeIs Try.prog 115 = some 0 := by kernel_rfl
theorem hf70 : HasFn Try.prog 70 := ⟨_, _, Try.func70, rfl, by kernel_rfl⟩
theorem fp115 : fieldPlaces Try.prog 115 = some [] := by kernel_rfl
theorem hf75 : HasFn Try.prog 75 := ⟨_, _, Try.func75, rfl, by kernel_rfl⟩
theorem sh39 : shp Try.prog 39 = some (some 3) := by kernel_rfl
theorem hf33 : HasFn Try.prog 33 := ⟨_, _, Try.func33, rfl, by kernel_rfl⟩
theorem hf76 : HasFn Try.prog 76 := ⟨_, _, Try.func76, rfl, by kernel_rfl⟩
theorem ze39 : zeroOf Try.prog 39 = some [.int .i64 0, .int .i64 0, .slice none 0 0] := by kernel_rfl
theorem fp39 : fieldPlaces Try.prog 39 = some [(0, 1), (1, 1), (2, 1)] := by kernel_rfl
theorem sz39 : sizeIs Try.prog 39 = some 3 := by kernel_rfl
theorem hf71 : HasFn Try.prog 71 := ⟨_, _, Try.func71, rfl, by kernel_rfl⟩
theorem sz37 : sizeIs Try.prog 37 = some 1 := by kernel_rfl
theorem hf73 : HasFn Try.prog 73 := ⟨_, _, Try.func73, rfl, by kernel_rfl⟩
theorem hf72 : HasFn Try.prog 72 := ⟨_, _, Try.func72, rfl, by kernel_rfl⟩
theorem hf74 : HasFn Try.prog 74 := ⟨_, _, Try.func74, rfl, by kernel_rfl⟩
theorem ze3 : zeroOf Try.prog 3 = some [.int .i64 0] := by kernel_rfl
theorem el3 : elemIs Try.prog 3 1 8 := elemIs_of (by kernel_rfl)
theorem hf77 : HasFn Try.prog 77 := ⟨_, _, Try.func77, rfl, by kernel_rfl⟩
theorem hf66 : HasFn Try.prog 66 := ⟨_, _, Try.func66, rfl, by kernel_rfl⟩
theorem hf28 : HasFn Try.prog 28 := ⟨_, _, Try.func28, rfl, by kernel_rfl⟩
theorem hf30 : HasFn Try.prog 30 := ⟨_, _, Try.func30, rfl, by kernel_rfl⟩
theorem eqS41 {x0 y0 : Int} {x1 y1 : Int} {x2 y2 : Int} {x3 y3 : Int} : EqS Try.prog 41 [.int .i64 x0, .int .i64 x1, .int .i64 x2, .int .i64 x3] [.int .i64 y0, .int .i64 y1, .int .i64 y2, .int .i64 y3] ((x0 == y0) && ((x1 == y1) && ((x2 == y2) && (x3 == y3)))) := EqS.mk' (by kernel_rfl) Try.underlying41 (by kernel_rfl) (FE.int (by decide) Try.underlying3 rfl rfl (FE.int (by decide) Try.underlying3 rfl rfl (FE.int (by decide) Try.underlying3 rfl rfl (FE.int1 (by decide) Try.underlying3 rfl rfl))))
theorem hf78 : HasFn Try.prog 78 := ⟨_, _, Try.func78, rfl, by kernel_rfl⟩
theorem hf31 : HasFn Try.prog 31 := ⟨_, _, Try.func31, rfl, by kernel_rfl⟩
theorem hf29 : HasFn Try.prog 29 := ⟨_, _, Try.func29, rfl, by kernel_rfl⟩
theorem fp41 : fieldPlaces Try.prog 41 = some [(0, 1), (1, 1), (2, 1), (3, 1)] := by kernel_rfl
theorem hf24 : HasFn Try.prog 24 := ⟨_, _, Try.func24, rfl, by kernel_rfl⟩
theorem hf25 : HasFn Try.prog 25 := ⟨_, _, Try.func25, rfl, by kernel_rfl⟩
theorem hf26 : HasFn Try.prog 26 := ⟨_, _, Try.func26, rfl, by kernel_rfl⟩
theorem hf22 : HasFn Try.prog 22 := ⟨_, _, Try.func22, rfl, by kernel_rfl⟩
theorem hf27 : HasFn Try.prog 27 := ⟨_, _, Try.func27, rfl, by kernel_rfl⟩
theorem hf32 : HasFn Try.prog 32 := ⟨_, _, Try.func32, rfl, by kernel_rfl⟩
theorem hf34 : HasFn Try.prog 34 := ⟨_, _, Try.func34, rfl, by kernel_rfl⟩
theorem hf35 : HasFn Try.prog 35 := ⟨_, _, Try.func35, rfl, by kernel_rfl⟩
theorem hf36 : HasFn Try.prog 36 := ⟨_, _, Try.func36, rfl, by kernel_rfl⟩
end Go.Proofs.Ythbfdhphnofacab
