/- Closed facts of the program. -/
import Derived.Test.YtgkihbbeimhmbaaDoorProg
import Derived.Test.YtgkihbbeimhmbaaDoorSx35
namespace Go.Proofs.YtgkihbbeimhmbaaDoor
open Go.Sx Go.RowKit
theorem hf27 : HasFn Tryd.prog 27 := ⟨_, _, Tryd.func27, rfl, by kernel_rfl⟩
theorem sz3 : sizeIs Tryd.prog 3 = some 1 := by kernel_rfl
theorem sh3 : shp Tryd.prog 3 = some none := by kernel_rfl
theorem hf35 : HasFn Tryd.prog 35 := ⟨_, _, Tryd.func35, rfl, by kernel_rfl⟩
theorem hf26 : HasFn Tryd.prog 26 := ⟨_, _, Tryd.func26, rfl, by kernel_rfl⟩
theorem hf25 : HasFn Tryd.prog 25 := ⟨_, _, Tryd.func25, rfl, by kernel_rfl⟩
theorem hmix : Tryd.prog.follows .mixedOrders = true := by kernel_rfl
theorem hf46 : HasFn Tryd.prog 46 := ⟨_, _, Tryd.func46, rfl, by kernel_rfl⟩
theorem hf47 : HasFn Tryd.prog 47 := ⟨_, _, Tryd.func47, rfl, by kernel_rfl⟩
theorem hf33 : HasFn Tryd.prog 33 := ⟨_, _, Tryd.func33, rfl, by kernel_rfl⟩
theorem hf34 : HasFn Tryd.prog 34 := ⟨_, _, Tryd.func34, rfl, by kernel_rfl⟩
theorem hf19 : HasFn Tryd.prog 19 := ⟨_, _, Tryd.func19, rfl, by kernel_rfl⟩
theorem sz9 : sizeIs Tryd.prog 9 = some 1 := by kernel_rfl
theorem sh9 : shp Tryd.prog 9 = some none := by kernel_rfl
theorem hf20 : HasFn Tryd.prog 20 := ⟨_, _, Tryd.func20, rfl, by kernel_rfl⟩
theorem ze3 : zeroOf Tryd.prog 3 = some [.int .i64 0] := by kernel_rfl
theorem el3 : elemIs Tryd.prog 3 1 8 := elemIs_of (by kernel_rfl)
theorem hf21 : HasFn Tryd.prog 21 := ⟨_, _, Tryd.func21, rfl, by kernel_rfl⟩
theorem hf15 : HasFn Tryd.prog 15 := ⟨_, _, Tryd.func15, rfl, by kernel_rfl⟩
theorem hf16 : HasFn Tryd.prog 16 := ⟨_, _, Tryd.func16, rfl, by kernel_rfl⟩
theorem hf17 : HasFn Tryd.prog 17 := ⟨_, _, Tryd.func17, rfl, by kernel_rfl⟩
theorem ze9 : zeroOf Tryd.prog 9 = some [.string ByteArray.empty] := by kernel_rfl
theorem el9 : elemIs Tryd.prog 9 1 16 := elemIs_of (by kernel_rfl)
theorem hf18 : HasFn Tryd.prog 18 := ⟨_, _, Tryd.func18, rfl, by kernel_rfl⟩
theorem hf8 : HasFn Tryd.prog 8 := ⟨_, _, Tryd.func8, rfl, by kernel_rfl⟩
theorem hf7 : HasFn Tryd.prog 7 := ⟨_, _, Tryd.func7, rfl, by kernel_rfl⟩
theorem hf24 : HasFn Tryd.prog 24 := ⟨_, _, Tryd.func24, rfl, by kernel_rfl⟩
theorem hf23 : HasFn Tryd.prog 23 := ⟨_, _, Tryd.func23, rfl, by kernel_rfl⟩
theorem hf12 : HasFn Tryd.prog 12 := ⟨_, _, Tryd.func12, rfl, by kernel_rfl⟩
theorem hf22 : HasFn Tryd.prog 22 := ⟨_, _, Tryd.func22, rfl, by kernel_rfl⟩
theorem hf9 : HasFn Tryd.prog 9 := ⟨_, _, Tryd.func9, rfl, by kernel_rfl⟩
theorem hf14 : HasFn Tryd.prog 14 := ⟨_, _, Tryd.func14, rfl, by kernel_rfl⟩
theorem hf13 : HasFn Tryd.prog 13 := ⟨_, _, Tryd.func13, rfl, by kernel_rfl⟩
theorem hf10 : HasFn Tryd.prog 10 := ⟨_, _, Tryd.func10, rfl, by kernel_rfl⟩
theorem hf11 : HasFn Tryd.prog 11 := ⟨_, _, Tryd.func11, rfl, by kernel_rfl⟩
end Go.Proofs.YtgkihbbeimhmbaaDoor
