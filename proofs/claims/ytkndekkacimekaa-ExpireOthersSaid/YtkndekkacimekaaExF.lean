/- Closed facts of the program. -/
import Derived.Test.YtkndekkacimekaaProg
import Derived.Test.YtkndekkacimekaaSx20
namespace Go.Proofs.Ytkndekkacimekaa
open Go.Sx Go.RowKit
theorem sz42 : sizeIs Try.prog 42 = some 3 := by kernel_rfl
theorem el42 : elemIs Try.prog 42 3 24 := elemIs_of (by kernel_rfl)
theorem ze42 : zeroOf Try.prog 42 = some [.int .i64 0, .int .i64 0, .int .i64 0] := by kernel_rfl
theorem hmix : Try.prog.follows .mixedOrders = true := by kernel_rfl
theorem sz3 : sizeIs Try.prog 3 = some 1 := by kernel_rfl
theorem sh3 : shp Try.prog 3 = some none := by kernel_rfl
theorem hf85 : HasFn Try.prog 85 := ⟨_, _, Try.func85, rfl, by kernel_rfl⟩
theorem sh42 : shp Try.prog 42 = some (some 3) := by kernel_rfl
theorem fo42_0 : fieldOff Try.prog 42 0 = some 0 := by kernel_rfl
theorem hf55 : HasFn Try.prog 55 := ⟨_, _, Try.func55, rfl, by kernel_rfl⟩
theorem hf81 : HasFn Try.prog 81 := ⟨_, _, Try.func81, rfl, by kernel_rfl⟩
theorem hf80 : HasFn Try.prog 80 := ⟨_, _, Try.func80, rfl, by kernel_rfl⟩
theorem fo42_2 : fieldOff Try.prog 42 2 = some 2 := by kernel_rfl
theorem fo24_0 : fieldOff Try.prog 24 0 = some 0 := by kernel_rfl
theorem fo24_1 : fieldOff Try.prog 24 1 = some 1 := by kernel_rfl
theorem sh22 : shp Try.prog 22 = some none := by kernel_rfl
theorem hf52 : HasFn Try.prog 52 := ⟨_, _, Try.func52, rfl, by kernel_rfl⟩
theorem fo42_1 : fieldOff Try.prog 42 1 = some 1 := by kernel_rfl
theorem hf47 : HasFn Try.prog 47 := ⟨_, _, Try.func47, rfl, by kernel_rfl⟩
theorem ze24 : zeroOf Try.prog 24 = some [.int .i64 0, .slice none 0 0] := by kernel_rfl
theorem fp24 : fieldPlaces Try.prog 24 = some [(0, 1), (1, 1)] := by kernel_rfl
theorem sz24 : sizeIs Try.prog 24 = some 2 := by kernel_rfl
theorem sz22 : sizeIs Try.prog 22 = some 1 := by kernel_rfl
theorem ze3 : zeroOf Try.prog 3 = some [.int .i64 0] := by kernel_rfl
theorem el3 : elemIs Try.prog 3 1 8 := elemIs_of (by kernel_rfl)
theorem sh24 : shp Try.prog 24 = some (some 2) := by kernel_rfl
theorem hf25 : HasFn Try.prog 25 := ⟨_, _, Try.func25, rfl, by kernel_rfl⟩
theorem hf84 : HasFn Try.prog 84 := ⟨_, _, Try.func84, rfl, by kernel_rfl⟩
theorem hf51 : HasFn Try.prog 51 := ⟨_, _, Try.func51, rfl, by kernel_rfl⟩
theorem hf48 : HasFn Try.prog 48 := ⟨_, _, Try.func48, rfl, by kernel_rfl⟩
theorem hf49 : HasFn Try.prog 49 := ⟨_, _, Try.func49, rfl, by kernel_rfl⟩
theorem hf16 : HasFn Try.prog 16 := ⟨_, _, Try.func16, rfl, by kernel_rfl⟩
theorem fp42 : fieldPlaces Try.prog 42 = some [(0, 1), (1, 1), (2, 1)] := by kernel_rfl
theorem hf50 : HasFn Try.prog 50 := ⟨_, _, Try.func50, rfl, by kernel_rfl⟩
theorem hf54 : HasFn Try.prog 54 := ⟨_, _, Try.func54, rfl, by kernel_rfl⟩
theorem hf53 : HasFn Try.prog 53 := ⟨_, _, Try.func53, rfl, by kernel_rfl⟩
theorem fc42_2 : fieldCell Try.prog 42 2 = some 2 := by kernel_rfl
theorem hf56 : HasFn Try.prog 56 := ⟨_, _, Try.func56, rfl, by kernel_rfl⟩
theorem hf19 : HasFn Try.prog 19 := ⟨_, _, Try.func19, rfl, by kernel_rfl⟩
theorem hf21 : HasFn Try.prog 21 := ⟨_, _, Try.func21, rfl, by kernel_rfl⟩
theorem eqS42 {x0 y0 : Int} {x1 y1 : Int} {x2 y2 : Int} : EqS Try.prog 42 [.int .i64 x0, .int .i64 x1, .int .i64 x2] [.int .i64 y0, .int .i64 y1, .int .i64 y2] ((x0 == y0) && ((x1 == y1) && (x2 == y2))) := EqS.mk' (by kernel_rfl) Try.underlying42 (by kernel_rfl) (FE.int (by decide) Try.underlying3 rfl rfl (FE.int (by decide) Try.underlying3 rfl rfl (FE.int1 (by decide) Try.underlying3 rfl rfl)))
theorem hf15 : HasFn Try.prog 15 := ⟨_, _, Try.func15, rfl, by kernel_rfl⟩
theorem hf18 : HasFn Try.prog 18 := ⟨_, _, Try.func18, rfl, by kernel_rfl⟩
theorem hf17 : HasFn Try.prog 17 := ⟨_, _, Try.func17, rfl, by kernel_rfl⟩
theorem hf26 : HasFn Try.prog 26 := ⟨_, _, Try.func26, rfl, by kernel_rfl⟩
theorem hf27 : HasFn Try.prog 27 := ⟨_, _, Try.func27, rfl, by kernel_rfl⟩
theorem hf20 : HasFn Try.prog 20 := ⟨_, _, Try.func20, rfl, by kernel_rfl⟩
theorem hf24 : HasFn Try.prog 24 := ⟨_, _, Try.func24, rfl, by kernel_rfl⟩
theorem hf22 : HasFn Try.prog 22 := ⟨_, _, Try.func22, rfl, by kernel_rfl⟩
theorem hf23 : HasFn Try.prog 23 := ⟨_, _, Try.func23, rfl, by kernel_rfl⟩
end Go.Proofs.Ytkndekkacimekaa
