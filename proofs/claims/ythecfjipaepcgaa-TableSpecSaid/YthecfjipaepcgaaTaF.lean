/- Closed facts of the program. -/
import Derived.Test.YthecfjipaepcgaaProg
import Derived.Test.YthecfjipaepcgaaSx12M17
namespace Go.Proofs.Ythecfjipaepcgaa
open Go.Sx Go.RowKit
theorem hf72 : HasFn Try.prog 72 := ⟨_, _, Try.func72, rfl, by kernel_rfl⟩
theorem hf92 : HasFn Try.prog 92 := ⟨_, _, Try.func92, rfl, by kernel_rfl⟩
theorem hf91 : HasFn Try.prog 91 := ⟨_, _, Try.func91, rfl, by kernel_rfl⟩
theorem fo33_0 : fieldOff Try.prog 33 0 = some 0 := by kernel_rfl
theorem sh4 : shp Try.prog 4 = some none := by kernel_rfl
theorem sh33 : shp Try.prog 33 = some (some 3) := by kernel_rfl
theorem fp33 : fieldPlaces Try.prog 33 = some [(0, 1), (1, 1), (2, 1)] := by kernel_rfl
theorem ze33 : zeroOf Try.prog 33 = some [.bool false, .string ByteArray.empty, .int .i64 0] := by kernel_rfl
theorem eqS33 {x0 y0 : Bool} {x1 y1 : ByteArray} {x2 y2 : Int} : EqS Try.prog 33 [.bool x0, .string x1, .int .i64 x2] [.bool y0, .string y1, .int .i64 y2] ((x0 == y0) && (decide (x1 = y1) && (x2 == y2))) := EqS.mk' (by kernel_rfl) Try.underlying33 (by kernel_rfl) (FE.bool (by decide) Try.underlying4 rfl rfl (FE.str (by decide) Try.underlying9 rfl rfl (FE.int1 (by decide) Try.underlying3 rfl rfl)))
theorem fo33_1 : fieldOff Try.prog 33 1 = some 1 := by kernel_rfl
theorem sh9 : shp Try.prog 9 = some none := by kernel_rfl
theorem fo33_2 : fieldOff Try.prog 33 2 = some 2 := by kernel_rfl
theorem sh3 : shp Try.prog 3 = some none := by kernel_rfl
theorem hf56 : HasFn Try.prog 56 := ⟨_, _, Try.func56, rfl, by kernel_rfl⟩
theorem ze4 : zeroOf Try.prog 4 = some [.bool false] := by kernel_rfl
theorem sh22 : shp Try.prog 22 = some none := by kernel_rfl
theorem sz33 : sizeIs Try.prog 33 = some 3 := by kernel_rfl
theorem hf60 : HasFn Try.prog 60 := ⟨_, _, Try.func60, rfl, by kernel_rfl⟩
theorem hf59 : HasFn Try.prog 59 := ⟨_, _, Try.func59, rfl, by kernel_rfl⟩
theorem hmix : Try.prog.follows .mixedOrders = true := by kernel_rfl
theorem hf90 : HasFn Try.prog 90 := ⟨_, _, Try.func90, rfl, by kernel_rfl⟩
theorem sz4 : sizeIs Try.prog 4 = some 1 := by kernel_rfl
theorem ze3 : zeroOf Try.prog 3 = some [.int .i64 0] := by kernel_rfl
theorem sz3 : sizeIs Try.prog 3 = some 1 := by kernel_rfl
theorem hf65 : HasFn Try.prog 65 := ⟨_, _, Try.func65, rfl, by kernel_rfl⟩
theorem zv101 : zeroV Try.prog 101 = some (.agg #[]) := by kernel_rfl
theorem ze101 : zeroOf Try.prog 101 = some [] := by kernel_rfl
theorem sz101 : sizeIs Try.prog 101 = some 0 := by kernel_rfl
theorem fp101 : fieldPlaces Try.prog 101 = some [] := by kernel_rfl
theorem hf66 : HasFn Try.prog 66 := ⟨_, _, Try.func66, rfl, by kernel_rfl⟩
theorem hf25 : HasFn Try.prog 25 := ⟨_, _, Try.func25, rfl, by kernel_rfl⟩
theorem hf55 : HasFn Try.prog 55 := ⟨_, _, Try.func55, rfl, by kernel_rfl⟩
theorem el33 : elemIs Try.prog 33 3 32 := elemIs_of (by kernel_rfl)
theorem hf57 : HasFn Try.prog 57 := ⟨_, _, Try.func57, rfl, by kernel_rfl⟩
theorem hf58 : HasFn Try.prog 58 := ⟨_, _, Try.func58, rfl, by kernel_rfl⟩
theorem ze22 : zeroOf Try.prog 22 = some [.slice none 0 0] := by kernel_rfl
theorem ze23 : zeroOf Try.prog 23 = some [.int .i64 0] := by kernel_rfl
theorem hf15 : HasFn Try.prog 15 := ⟨_, _, Try.func15, rfl, by kernel_rfl⟩
theorem sz22 : sizeIs Try.prog 22 = some 1 := by kernel_rfl
theorem sz23 : sizeIs Try.prog 23 = some 1 := by kernel_rfl
theorem sh23 : shp Try.prog 23 = some none := by kernel_rfl
theorem hf16 : HasFn Try.prog 16 := ⟨_, _, Try.func16, rfl, by kernel_rfl⟩
theorem hf17 : HasFn Try.prog 17 := ⟨_, _, Try.func17, rfl, by kernel_rfl⟩
theorem hf18 : HasFn Try.prog 18 := ⟨_, _, Try.func18, rfl, by kernel_rfl⟩
theorem hf24 : HasFn Try.prog 24 := ⟨_, _, Try.func24, rfl, by kernel_rfl⟩
theorem hf26 : HasFn Try.prog 26 := ⟨_, _, Try.func26, rfl, by kernel_rfl⟩
theorem hf94 : HasFn Try.prog 94 := ⟨_, _, Try.func94, rfl, by kernel_rfl⟩
theorem hf93 : HasFn Try.prog 93 := ⟨_, _, Try.func93, rfl, by kernel_rfl⟩
theorem hf64 : HasFn Try.prog 64 := ⟨_, _, Try.func64, rfl, by kernel_rfl⟩
theorem hf63 : HasFn Try.prog 63 := ⟨_, _, Try.func63, rfl, by kernel_rfl⟩
theorem hf62 : HasFn Try.prog 62 := ⟨_, _, Try.func62, rfl, by kernel_rfl⟩
theorem hf20 : HasFn Try.prog 20 := ⟨_, _, Try.func20, rfl, by kernel_rfl⟩
theorem hf21 : HasFn Try.prog 21 := ⟨_, _, Try.func21, rfl, by kernel_rfl⟩
theorem hf61 : HasFn Try.prog 61 := ⟨_, _, Try.func61, rfl, by kernel_rfl⟩
theorem hf19 : HasFn Try.prog 19 := ⟨_, _, Try.func19, rfl, by kernel_rfl⟩
theorem hf23 : HasFn Try.prog 23 := ⟨_, _, Try.func23, rfl, by kernel_rfl⟩
theorem hf22 : HasFn Try.prog 22 := ⟨_, _, Try.func22, rfl, by kernel_rfl⟩
end Go.Proofs.Ythecfjipaepcgaa
