/- Closed facts of the program. -/
import Derived.Test.YtgjdmnljnimamaaProg
import Derived.Test.YtgjdmnljnimamaaSx23
namespace Go.Proofs.Ytgjdmnljnimamaa
open Go.Sx Go.RowKit
theorem sz3 : sizeIs Try.prog 3 = some 1 := by kernel_rfl
theorem sh3 : shp Try.prog 3 = some none := by kernel_rfl
theorem hf82 : HasFn Try.prog 82 := ⟨_, _, Try.func82, rfl, by kernel_rfl⟩
theorem hmix : Try.prog.follows .mixedOrders = true := by kernel_rfl
theorem hf57 : HasFn Try.prog 57 := ⟨_, _, Try.func57, rfl, by kernel_rfl⟩
theorem hf58 : HasFn Try.prog 58 := ⟨_, _, Try.func58, rfl, by kernel_rfl⟩
theorem hf89 : HasFn Try.prog 89 := ⟨_, _, Try.func89, rfl, by kernel_rfl⟩
theorem hf51 : HasFn Try.prog 51 := ⟨_, _, Try.func51, rfl, by kernel_rfl⟩
theorem sh23 : shp Try.prog 23 = some none := by kernel_rfl
theorem el3 : elemIs Try.prog 3 1 8 := elemIs_of (by kernel_rfl)
theorem ze3 : zeroOf Try.prog 3 = some [.int .i64 0] := by kernel_rfl
theorem ze23 : zeroOf Try.prog 23 = some [.slice none 0 0] := by kernel_rfl
theorem sz23 : sizeIs Try.prog 23 = some 1 := by kernel_rfl
theorem ze106 : zeroOf Try.prog 106 = some [.map none] := by kernel_rfl
theorem sz106 : sizeIs Try.prog 106 = some 1 := by kernel_rfl
theorem hf94 : HasFn Try.prog 94 := ⟨_, _, Try.func94, rfl, by kernel_rfl⟩
theorem hf112 : HasFn Try.prog 112 := ⟨_, _, Try.func112, rfl, by kernel_rfl⟩
theorem sh106 : shp Try.prog 106 = some none := by kernel_rfl
theorem zv3 : zeroV Try.prog 3 = some (.int .i64 0) := by kernel_rfl
theorem hf61 : HasFn Try.prog 61 := ⟨_, _, Try.func61, rfl, by kernel_rfl⟩
theorem hf70 : HasFn Try.prog 70 := ⟨_, _, Try.func70, rfl, by kernel_rfl⟩
theorem hf69 : HasFn Try.prog 69 := ⟨_, _, Try.func69, rfl, by kernel_rfl⟩
theorem hf71 : HasFn Try.prog 71 := ⟨_, _, Try.func71, rfl, by kernel_rfl⟩
theorem hf36 : HasFn Try.prog 36 := ⟨_, _, Try.func36, rfl, by kernel_rfl⟩
theorem hf72 : HasFn Try.prog 72 := ⟨_, _, Try.func72, rfl, by kernel_rfl⟩
theorem hf73 : HasFn Try.prog 73 := ⟨_, _, Try.func73, rfl, by kernel_rfl⟩
theorem hf38 : HasFn Try.prog 38 := ⟨_, _, Try.func38, rfl, by kernel_rfl⟩
theorem hf39 : HasFn Try.prog 39 := ⟨_, _, Try.func39, rfl, by kernel_rfl⟩
theorem hf40 : HasFn Try.prog 40 := ⟨_, _, Try.func40, rfl, by kernel_rfl⟩
theorem hf32 : HasFn Try.prog 32 := ⟨_, _, Try.func32, rfl, by kernel_rfl⟩
theorem hf41 : HasFn Try.prog 41 := ⟨_, _, Try.func41, rfl, by kernel_rfl⟩
theorem hf42 : HasFn Try.prog 42 := ⟨_, _, Try.func42, rfl, by kernel_rfl⟩
theorem hf43 : HasFn Try.prog 43 := ⟨_, _, Try.func43, rfl, by kernel_rfl⟩
theorem hf26 : HasFn Try.prog 26 := ⟨_, _, Try.func26, rfl, by kernel_rfl⟩
theorem hf74 : HasFn Try.prog 74 := ⟨_, _, Try.func74, rfl, by kernel_rfl⟩
theorem hf44 : HasFn Try.prog 44 := ⟨_, _, Try.func44, rfl, by kernel_rfl⟩
end Go.Proofs.Ytgjdmnljnimamaa
