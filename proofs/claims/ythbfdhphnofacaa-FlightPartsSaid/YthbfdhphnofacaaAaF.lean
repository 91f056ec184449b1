/- Closed facts of the program. -/
import Derived.Test.YthbfdhphnofacaaProg
import Derived.Test.YthbfdhphnofacaaSx8
namespace Go.Proofs.Ythbfdhphnofacaa
open Go.Sx Go.RowKit
theorem sz47 : sizeIs Try.prog 47 = some 3 := by kernel_rfl
theorem sh47 : shp Try.prog 47 = some (some 3) := by kernel_rfl
theorem ze47 : zeroOf Try.prog 47 = some [.int .i64 0, .int .i64 0, .int .i64 0] := by kernel_rfl
theorem fo47_0 : fieldOff Try.prog 47 0 = some 0 := by kernel_rfl
theorem sh3 : shp Try.prog 3 = some none := by kernel_rfl
theorem hf50 : HasFn Try.prog 50 := ⟨_, _, Try.func50, rfl, by kernel_rfl⟩
theorem fo47_1 : fieldOff Try.prog 47 1 = some 1 := by kernel_rfl
theorem fo47_2 : fieldOff Try.prog 47 2 = some 2 := by kernel_rfl
theorem zv72 : zeroV Try.prog 72 = some (.agg #[.int .i64 0, .int .i64 0]) := by kernel_rfl
theorem ze72 : zeroOf Try.prog 72 = some [.int .i64 0, .int .i64 0] := by kernel_rfl
theorem sz72 : sizeIs Try.prog 72 = some 2 := by kernel_rfl
theorem fo72_1 : fieldOff Try.prog 72 1 = some 1 := by kernel_rfl
theorem fp72 : fieldPlaces Try.prog 72 = some [(0, 1), (1, 1)] := by kernel_rfl
theorem sh72 : shp Try.prog 72 = some (some 2) := by kernel_rfl
theorem el72 : elemIs Try.prog 72 2 16 := elemIs_of (by kernel_rfl)
theorem hf30 : HasFn Try.prog 30 := ⟨_, _, Try.func30, rfl, by kernel_rfl⟩
theorem hf48 : HasFn Try.prog 48 := ⟨_, _, Try.func48, rfl, by kernel_rfl⟩
theorem fo72_0 : fieldOff Try.prog 72 0 = some 0 := by kernel_rfl
theorem sz3 : sizeIs Try.prog 3 = some 1 := by kernel_rfl
theorem ze3 : zeroOf Try.prog 3 = some [.int .i64 0] := by kernel_rfl
theorem el3 : elemIs Try.prog 3 1 8 := elemIs_of (by kernel_rfl)
theorem hmix : Try.prog.follows .mixedOrders = true := by kernel_rfl
theorem hf49 : HasFn Try.prog 49 := ⟨_, _, Try.func49, rfl, by kernel_rfl⟩
theorem fp47 : fieldPlaces Try.prog 47 = some [(0, 1), (1, 1), (2, 1)] := by kernel_rfl
theorem hf24 : HasFn Try.prog 24 := ⟨_, _, Try.func24, rfl, by kernel_rfl⟩
theorem hf25 : HasFn Try.prog 25 := ⟨_, _, Try.func25, rfl, by kernel_rfl⟩
theorem hf26 : HasFn Try.prog 26 := ⟨_, _, Try.func26, rfl, by kernel_rfl⟩
theorem hf31 : HasFn Try.prog 31 := ⟨_, _, Try.func31, rfl, by kernel_rfl⟩
theorem hf27 : HasFn Try.prog 27 := ⟨_, _, Try.func27, rfl, by kernel_rfl⟩
theorem hf28 : HasFn Try.prog 28 := ⟨_, _, Try.func28, rfl, by kernel_rfl⟩
theorem hf29 : HasFn Try.prog 29 := ⟨_, _, Try.func29, rfl, by kernel_rfl⟩
theorem hf32 : HasFn Try.prog 32 := ⟨_, _, Try.func32, rfl, by kernel_rfl⟩
theorem el47 : elemIs Try.prog 47 3 24 := elemIs_of (by kernel_rfl)
end Go.Proofs.Ythbfdhphnofacaa
