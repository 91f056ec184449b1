/- Closed facts of the program. -/
import Derived.Test.YthbfdhphnofacacProg
import Derived.Test.YthbfdhphnofacacSx17
namespace Go.Proofs.Ythbfdhphnofacac
open Go.Sx Go.RowKit
theorem sz3 : sizeIs Try.prog 3 = some 1 := by kernel_rfl
theorem ze3 : zeroOf Try.prog 3 = some [.int .i64 0] := by kernel_rfl
theorem el3 : elemIs Try.prog 3 1 8 := elemIs_of (by kernel_rfl)
theorem sh3 : shp Try.prog 3 = some none := by kernel_rfl
theorem hmix : Try.prog.follows .mixedOrders = true := by kernel_rfl
theorem hf84 : HasFn Try.prog 84 := ⟨_, _, Try.func84, rfl, by kernel_rfl⟩
theorem hf94 : HasFn Try.prog 94 := ⟨_, _, Try.func94, rfl, by kernel_rfl⟩
theorem zv99 : zeroV Try.prog 99 = some (.agg #[]) := by kernel_rfl
theorem ze99 : zeroOf Try.prog 99 = some [] := by kernel_rfl
theorem sz99 : sizeIs Try.prog 99 = some 0 := by kernel_rfl
theorem fp99 : fieldPlaces Try.prog 99 = some [] := by kernel_rfl
theorem hf77 : HasFn Try.prog 77 := ⟨_, _, Try.func77, rfl, by kernel_rfl⟩
theorem hf40 : HasFn Try.prog 40 := ⟨_, _, Try.func40, rfl, by kernel_rfl⟩
theorem hf101 : HasFn Try.prog 101 := ⟨_, _, Try.func101, rfl, by kernel_rfl⟩
theorem hf100 : HasFn Try.prog 100 := ⟨_, _, Try.func100, rfl, by kernel_rfl⟩
theorem fo72_0 : fieldOff Try.prog 72 0 = some 0 := by kernel_rfl
theorem hf91 : HasFn Try.prog 91 := ⟨_, _, Try.func91, rfl, by kernel_rfl⟩
theorem fo72_1 : fieldOff Try.prog 72 1 = some 1 := by kernel_rfl
theorem sh52 : shp Try.prog 52 = some none := by kernel_rfl
theorem hf99 : HasFn Try.prog 99 := ⟨_, _, Try.func99, rfl, by kernel_rfl⟩
theorem hf95 : HasFn Try.prog 95 := ⟨_, _, Try.func95, rfl, by kernel_rfl⟩
theorem fp72 : fieldPlaces Try.prog 72 = some [(0, 1), (1, 1)] := by kernel_rfl
theorem ze72 : zeroOf Try.prog 72 = some [.int .i64 0, .slice none 0 0] := by kernel_rfl
theorem fp122 : fieldPlaces Try.prog 122 = some [(0, 2)] := by kernel_rfl
theorem ze122 : zeroOf Try.prog 122 = some [.int .i64 0, .slice none 0 0] := by kernel_rfl
theorem fo122_0 : fieldOff Try.prog 122 0 = some 0 := by kernel_rfl
theorem hf114 : HasFn Try.prog 114 := ⟨_, _, Try.func114, rfl, by kernel_rfl⟩
theorem hf115 : HasFn Try.prog 115 := ⟨_, _, Try.func115, rfl, by kernel_rfl⟩
theorem sz52 : sizeIs Try.prog 52 = some 1 := by kernel_rfl
theorem hf116 : HasFn Try.prog 116 := ⟨_, _, Try.func116, rfl, by kernel_rfl⟩
theorem sh72 : shp Try.prog 72 = some (some 2) := by kernel_rfl
theorem hf58 : HasFn Try.prog 58 := ⟨_, _, Try.func58, rfl, by kernel_rfl⟩
theorem sz72 : sizeIs Try.prog 72 = some 2 := by kernel_rfl
theorem hf89 : HasFn Try.prog 89 := ⟨_, _, Try.func89, rfl, by kernel_rfl⟩
theorem hf90 : HasFn Try.prog 90 := ⟨_, _, Try.func90, rfl, by kernel_rfl⟩
theorem hf59 : HasFn Try.prog 59 := ⟨_, _, Try.func59, rfl, by kernel_rfl⟩
theorem hf96 : HasFn Try.prog 96 := ⟨_, _, Try.func96, rfl, by kernel_rfl⟩
theorem hf97 : HasFn Try.prog 97 := ⟨_, _, Try.func97, rfl, by kernel_rfl⟩
theorem hf55 : HasFn Try.prog 55 := ⟨_, _, Try.func55, rfl, by kernel_rfl⟩
theorem hf47 : HasFn Try.prog 47 := ⟨_, _, Try.func47, rfl, by kernel_rfl⟩
theorem hf98 : HasFn Try.prog 98 := ⟨_, _, Try.func98, rfl, by kernel_rfl⟩
theorem hf50 : HasFn Try.prog 50 := ⟨_, _, Try.func50, rfl, by kernel_rfl⟩
theorem hf52 : HasFn Try.prog 52 := ⟨_, _, Try.func52, rfl, by kernel_rfl⟩
theorem hf53 : HasFn Try.prog 53 := ⟨_, _, Try.func53, rfl, by kernel_rfl⟩
theorem hf54 : HasFn Try.prog 54 := ⟨_, _, Try.func54, rfl, by kernel_rfl⟩
theorem hf44 : HasFn Try.prog 44 := ⟨_, _, Try.func44, rfl, by kernel_rfl⟩
theorem hf56 : HasFn Try.prog 56 := ⟨_, _, Try.func56, rfl, by kernel_rfl⟩
theorem hf57 : HasFn Try.prog 57 := ⟨_, _, Try.func57, rfl, by kernel_rfl⟩
theorem hf60 : HasFn Try.prog 60 := ⟨_, _, Try.func60, rfl, by kernel_rfl⟩
end Go.Proofs.Ythbfdhphnofacac
