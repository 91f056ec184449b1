/- Closed facts of the program. -/
import Derived.Test.YthbfdhphnofacaaProg
import Derived.Test.YthbfdhphnofacaaSx11
namespace Go.Proofs.Ythbfdhphnofacaa
open Go.Sx Go.RowKit
theorem fo53_0 : fieldOff Try.prog 53 0 = some 0 := by kernel_rfl
theorem sh3 : shp Try.prog 3 = some none := by kernel_rfl
theorem hf53 : HasFn Try.prog 53 := ⟨_, _, Try.func53, rfl, by kernel_rfl⟩
theorem fo53_1 : fieldOff Try.prog 53 1 = some 1 := by kernel_rfl
theorem fo53_2 : fieldOff Try.prog 53 2 = some 2 := by kernel_rfl
theorem fo53_3 : fieldOff Try.prog 53 3 = some 3 := by kernel_rfl
theorem hf54 : HasFn Try.prog 54 := ⟨_, _, Try.func54, rfl, by kernel_rfl⟩
theorem sh53 : shp Try.prog 53 = some (some 4) := by kernel_rfl
theorem hf41 : HasFn Try.prog 41 := ⟨_, _, Try.func41, rfl, by kernel_rfl⟩
theorem ze53 : zeroOf Try.prog 53 = some [.int .i64 0, .int .i64 0, .int .i64 0, .int .i64 0] := by kernel_rfl
theorem fp53 : fieldPlaces Try.prog 53 = some [(0, 1), (1, 1), (2, 1), (3, 1)] := by kernel_rfl
theorem sz53 : sizeIs Try.prog 53 = some 4 := by kernel_rfl
theorem sz3 : sizeIs Try.prog 3 = some 1 := by kernel_rfl
theorem hf51 : HasFn Try.prog 51 := ⟨_, _, Try.func51, rfl, by kernel_rfl⟩
theorem hf52 : HasFn Try.prog 52 := ⟨_, _, Try.func52, rfl, by kernel_rfl⟩
theorem hf49 : HasFn Try.prog 49 := ⟨_, _, Try.func49, rfl, by kernel_rfl⟩
theorem hf37 : HasFn Try.prog 37 := ⟨_, _, Try.func37, rfl, by kernel_rfl⟩
theorem hmix : Try.prog.follows .mixedOrders = true := by kernel_rfl
theorem hf33 : HasFn Try.prog 33 := ⟨_, _, Try.func33, rfl, by kernel_rfl⟩
theorem hf35 : HasFn Try.prog 35 := ⟨_, _, Try.func35, rfl, by kernel_rfl⟩
theorem hf34 : HasFn Try.prog 34 := ⟨_, _, Try.func34, rfl, by kernel_rfl⟩
theorem hf36 : HasFn Try.prog 36 := ⟨_, _, Try.func36, rfl, by kernel_rfl⟩
theorem eqS53 {x0 y0 : Int} {x1 y1 : Int} {x2 y2 : Int} {x3 y3 : Int} : EqS Try.prog 53 [.int .i64 x0, .int .i64 x1, .int .i64 x2, .int .i64 x3] [.int .i64 y0, .int .i64 y1, .int .i64 y2, .int .i64 y3] ((x0 == y0) && ((x1 == y1) && ((x2 == y2) && (x3 == y3)))) := EqS.mk' (by kernel_rfl) Try.underlying53 (by kernel_rfl) (FE.int (by decide) Try.underlying3 rfl rfl (FE.int (by decide) Try.underlying3 rfl rfl (FE.int (by decide) Try.underlying3 rfl rfl (FE.int1 (by decide) Try.underlying3 rfl rfl))))
theorem hf38 : HasFn Try.prog 38 := ⟨_, _, Try.func38, rfl, by kernel_rfl⟩
theorem hf39 : HasFn Try.prog 39 := ⟨_, _, Try.func39, rfl, by kernel_rfl⟩
theorem hf40 : HasFn Try.prog 40 := ⟨_, _, Try.func40, rfl, by kernel_rfl⟩
end Go.Proofs.Ythbfdhphnofacaa
