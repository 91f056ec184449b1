/- Closed facts of the program. -/
import Derived.Test.YtgjdmnljnimamaaProg
import Derived.Test.YtgjdmnljnimamaaSx21
namespace Go.Proofs.Ytgjdmnljnimamaa
open Go.Sx Go.RowKit
theorem sz35 : sizeIs Try.prog 35 = some 2 := by kernel_rfl
theorem ze35 : zeroOf Try.prog 35 = some [.int .i64 0, .int .i64 0] := by kernel_rfl
theorem el35 : elemIs Try.prog 35 2 16 := elemIs_of (by kernel_rfl)
theorem hmix : Try.prog.follows .mixedOrders = true := by kernel_rfl
theorem sh35 : shp Try.prog 35 = some (some 2) := by kernel_rfl
theorem sz3 : sizeIs Try.prog 3 = some 1 := by kernel_rfl
theorem sh3 : shp Try.prog 3 = some none := by kernel_rfl
theorem hf82 : HasFn Try.prog 82 := ⟨_, _, Try.func82, rfl, by kernel_rfl⟩
theorem hf108 : HasFn Try.prog 108 := ⟨_, _, Try.func108, rfl, by kernel_rfl⟩
theorem fo35_0 : fieldOff Try.prog 35 0 = some 0 := by kernel_rfl
theorem hf81 : HasFn Try.prog 81 := ⟨_, _, Try.func81, rfl, by kernel_rfl⟩
theorem eqS35 {x0 y0 : Int} {x1 y1 : Int} : EqS Try.prog 35 [.int .i64 x0, .int .i64 x1] [.int .i64 y0, .int .i64 y1] ((x0 == y0) && (x1 == y1)) := EqS.mk' (by kernel_rfl) Try.underlying35 (by kernel_rfl) (FE.int (by decide) Try.underlying3 rfl rfl (FE.int1 (by decide) Try.underlying3 rfl rfl))
theorem fo35_1 : fieldOff Try.prog 35 1 = some 1 := by kernel_rfl
theorem hf50 : HasFn Try.prog 50 := ⟨_, _, Try.func50, rfl, by kernel_rfl⟩
theorem hf47 : HasFn Try.prog 47 := ⟨_, _, Try.func47, rfl, by kernel_rfl⟩
theorem hf24 : HasFn Try.prog 24 := ⟨_, _, Try.func24, rfl, by kernel_rfl⟩
theorem hf49 : HasFn Try.prog 49 := ⟨_, _, Try.func49, rfl, by kernel_rfl⟩
theorem hf48 : HasFn Try.prog 48 := ⟨_, _, Try.func48, rfl, by kernel_rfl⟩
theorem hf52 : HasFn Try.prog 52 := ⟨_, _, Try.func52, rfl, by kernel_rfl⟩
theorem hf51 : HasFn Try.prog 51 := ⟨_, _, Try.func51, rfl, by kernel_rfl⟩
theorem hf53 : HasFn Try.prog 53 := ⟨_, _, Try.func53, rfl, by kernel_rfl⟩
theorem fp35 : fieldPlaces Try.prog 35 = some [(0, 1), (1, 1)] := by kernel_rfl
theorem hf54 : HasFn Try.prog 54 := ⟨_, _, Try.func54, rfl, by kernel_rfl⟩
theorem hf56 : HasFn Try.prog 56 := ⟨_, _, Try.func56, rfl, by kernel_rfl⟩
theorem hf85 : HasFn Try.prog 85 := ⟨_, _, Try.func85, rfl, by kernel_rfl⟩
theorem hf55 : HasFn Try.prog 55 := ⟨_, _, Try.func55, rfl, by kernel_rfl⟩
theorem el3 : elemIs Try.prog 3 1 8 := elemIs_of (by kernel_rfl)
theorem ze3 : zeroOf Try.prog 3 = some [.int .i64 0] := by kernel_rfl
theorem hf57 : HasFn Try.prog 57 := ⟨_, _, Try.func57, rfl, by kernel_rfl⟩
theorem hf16 : HasFn Try.prog 16 := ⟨_, _, Try.func16, rfl, by kernel_rfl⟩
theorem hf15 : HasFn Try.prog 15 := ⟨_, _, Try.func15, rfl, by kernel_rfl⟩
theorem hf18 : HasFn Try.prog 18 := ⟨_, _, Try.func18, rfl, by kernel_rfl⟩
theorem hf17 : HasFn Try.prog 17 := ⟨_, _, Try.func17, rfl, by kernel_rfl⟩
theorem hf25 : HasFn Try.prog 25 := ⟨_, _, Try.func25, rfl, by kernel_rfl⟩
theorem hf26 : HasFn Try.prog 26 := ⟨_, _, Try.func26, rfl, by kernel_rfl⟩
theorem hf19 : HasFn Try.prog 19 := ⟨_, _, Try.func19, rfl, by kernel_rfl⟩
theorem hf20 : HasFn Try.prog 20 := ⟨_, _, Try.func20, rfl, by kernel_rfl⟩
theorem hf21 : HasFn Try.prog 21 := ⟨_, _, Try.func21, rfl, by kernel_rfl⟩
theorem hf22 : HasFn Try.prog 22 := ⟨_, _, Try.func22, rfl, by kernel_rfl⟩
theorem hf23 : HasFn Try.prog 23 := ⟨_, _, Try.func23, rfl, by kernel_rfl⟩
end Go.Proofs.Ytgjdmnljnimamaa
