/- Closed facts of the program. -/
import Derived.Test.YtagbihjkdejdjaaProg
import Derived.Test.YtagbihjkdejdjaaSx20
namespace Go.Proofs.Ytagbihjkdejdjaa
open Go.Sx Go.RowKit
theorem sz3 : sizeIs Try.prog 3 = some 1 := by kernel_rfl
theorem sh3 : shp Try.prog 3 = some none := by kernel_rfl
theorem el3 : elemIs Try.prog 3 1 8 := elemIs_of (by kernel_rfl)
theorem hmix : Try.prog.follows .mixedOrders = true := by kernel_rfl
theorem ze3 : zeroOf Try.prog 3 = some [.int .i64 0] := by kernel_rfl
theorem hf62 : HasFn Try.prog 62 := ⟨_, _, Try.func62, rfl, by kernel_rfl⟩
theorem hf49 : HasFn Try.prog 49 := ⟨_, _, Try.func49, rfl, by kernel_rfl⟩
theorem zv113 : zeroV Try.prog 113 = some (.agg #[]) := by kernel_rfl
theorem ze113 : zeroOf Try.prog 113 = some [] := by kernel_rfl
theorem sz113 : sizeIs Try.prog 113 = some 0 := by kernel_rfl
theorem fp113 : fieldPlaces Try.prog 113 = some [] := by kernel_rfl
theorem hf54 : HasFn Try.prog 54 := ⟨_, _, Try.func54, rfl, by kernel_rfl⟩
theorem hf81 : HasFn Try.prog 81 := ⟨_, _, Try.func81, rfl, by kernel_rfl⟩
theorem hf80 : HasFn Try.prog 80 := ⟨_, _, Try.func80, rfl, by kernel_rfl⟩
theorem fo59_0 : fieldOff Try.prog 59 0 = some 0 := by kernel_rfl
theorem hf56 : HasFn Try.prog 56 := ⟨_, _, Try.func56, rfl, by kernel_rfl⟩
theorem fo59_1 : fieldOff Try.prog 59 1 = some 1 := by kernel_rfl
theorem sh25 : shp Try.prog 25 = some none := by kernel_rfl
theorem hf57 : HasFn Try.prog 57 := ⟨_, _, Try.func57, rfl, by kernel_rfl⟩
theorem hf85 : HasFn Try.prog 85 := ⟨_, _, Try.func85, rfl, by kernel_rfl⟩
theorem fp59 : fieldPlaces Try.prog 59 = some [(0, 1), (1, 1)] := by kernel_rfl
theorem ze59 : zeroOf Try.prog 59 = some [.int .i64 0, .slice none 0 0] := by kernel_rfl
theorem fp101 : fieldPlaces Try.prog 101 = some [(0, 2)] := by kernel_rfl
theorem ze101 : zeroOf Try.prog 101 = some [.int .i64 0, .slice none 0 0] := by kernel_rfl
theorem fo101_0 : fieldOff Try.prog 101 0 = some 0 := by kernel_rfl
theorem hf82 : HasFn Try.prog 82 := ⟨_, _, Try.func82, rfl, by kernel_rfl⟩
theorem hf83 : HasFn Try.prog 83 := ⟨_, _, Try.func83, rfl, by kernel_rfl⟩
theorem sz25 : sizeIs Try.prog 25 = some 1 := by kernel_rfl
theorem hf84 : HasFn Try.prog 84 := ⟨_, _, Try.func84, rfl, by kernel_rfl⟩
theorem sh59 : shp Try.prog 59 = some (some 2) := by kernel_rfl
theorem hf64 : HasFn Try.prog 64 := ⟨_, _, Try.func64, rfl, by kernel_rfl⟩
theorem hf52 : HasFn Try.prog 52 := ⟨_, _, Try.func52, rfl, by kernel_rfl⟩
theorem sz59 : sizeIs Try.prog 59 = some 2 := by kernel_rfl
theorem hf65 : HasFn Try.prog 65 := ⟨_, _, Try.func65, rfl, by kernel_rfl⟩
theorem hf66 : HasFn Try.prog 66 := ⟨_, _, Try.func66, rfl, by kernel_rfl⟩
theorem hf60 : HasFn Try.prog 60 := ⟨_, _, Try.func60, rfl, by kernel_rfl⟩
theorem hf61 : HasFn Try.prog 61 := ⟨_, _, Try.func61, rfl, by kernel_rfl⟩
theorem hf30 : HasFn Try.prog 30 := ⟨_, _, Try.func30, rfl, by kernel_rfl⟩
theorem hf63 : HasFn Try.prog 63 := ⟨_, _, Try.func63, rfl, by kernel_rfl⟩
theorem hf27 : HasFn Try.prog 27 := ⟨_, _, Try.func27, rfl, by kernel_rfl⟩
theorem hf33 : HasFn Try.prog 33 := ⟨_, _, Try.func33, rfl, by kernel_rfl⟩
theorem hf28 : HasFn Try.prog 28 := ⟨_, _, Try.func28, rfl, by kernel_rfl⟩
theorem hf32 : HasFn Try.prog 32 := ⟨_, _, Try.func32, rfl, by kernel_rfl⟩
theorem hf35 : HasFn Try.prog 35 := ⟨_, _, Try.func35, rfl, by kernel_rfl⟩
theorem hf31 : HasFn Try.prog 31 := ⟨_, _, Try.func31, rfl, by kernel_rfl⟩
theorem hf21 : HasFn Try.prog 21 := ⟨_, _, Try.func21, rfl, by kernel_rfl⟩
theorem hf34 : HasFn Try.prog 34 := ⟨_, _, Try.func34, rfl, by kernel_rfl⟩
theorem hf29 : HasFn Try.prog 29 := ⟨_, _, Try.func29, rfl, by kernel_rfl⟩
theorem hf36 : HasFn Try.prog 36 := ⟨_, _, Try.func36, rfl, by kernel_rfl⟩
end Go.Proofs.Ytagbihjkdejdjaa
