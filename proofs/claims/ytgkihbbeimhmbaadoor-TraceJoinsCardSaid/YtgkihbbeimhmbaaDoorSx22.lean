/- Slices of slices: lists that are only read; a place of an array. -/
import Derived.Test.YtgkihbbeimhmbaaDoorSx21
namespace Go.Sx
open Go.RowKit
/-- a slice of numbers as an element of a list of slices -/
structure Hdr where
  a : Option Addr
  cap : Nat
  L : List Int
instance : Inhabited Hdr := ⟨⟨none, 0, []⟩⟩
def tHdr : Ty Hdr := ⟨1, fun h => [.slice h.a h.L.length h.cap], fun _ => rfl⟩
def catH (l : List Hdr) : List Int := (l.map Hdr.L).flatten
theorem catH_step {l : List Hdr} {k : Nat} (h : k < l.length) : catH (l.take (k + 1)) = catH (l.take k) ++ l[k].L := by
  unfold catH; rw [List.take_succ_eq_append_getElem h, List.map_append, List.flatten_append]; simp only [List.map_cons, List.map_nil, List.flatten_cons, List.flatten_nil, List.append_nil]
theorem catH_le (l : List Hdr) (k : Nat) : (catH (l.take k)).length ≤ (catH l).length := by
  have h : catH l = catH (l.take k) ++ catH (l.drop k) := by
    unfold catH
    rw [← List.flatten_append, ← List.map_append, List.take_append_drop]
  rw [h, List.length_append]; omega
theorem catH_all {l : List Hdr} {k : Nat} (h : l.length ≤ k) : catH (l.take k) = catH l := by rw [List.take_of_length_le h]
section
variable {α : Type} {P : Program} {n : Nat} {w0 : World} {r : Option Nat} {ds : List Deferred} {F : List (Nat × Value)} {H : List Ent}
variable {T : Ty α}
variable {ty : TypeId} {pos : String} {after : Array Edge} {guard : Option (Nat × Bool)} {dst : Option Tmp} {x y : Operand}
theorem rd_rows2 {h1 h2 : Hdr} (r1 : ∀ w, HeapIs w0 H w → Rd tInt w h1.a h1.cap h1.L) (r2 : ∀ w, HeapIs w0 H w → Rd tInt w h2.a h2.cap h2.L) {k : Nat} (hk : k < [h1, h2].length) : ∀ w, HeapIs w0 H w → Rd tInt w ([h1, h2][k]).a ([h1, h2][k]).cap ([h1, h2][k]).L := by
  match k, hk with
  | 0, _ => exact r1
  | 1, _ => exact r2
theorem mem_rows2 {h1 h2 : Hdr} {k : Nat} (hk : k < [h1, h2].length) : ([h1, h2][k]).L = h1.L ∨ ([h1, h2][k]).L = h2.L := by
  match k, hk with
  | 0, _ => exact .inl rfl
  | 1, _ => exact .inr rfl
theorem rd_entOr {S : Nat → Prop} {A : World → Prop} {a : Option Addr} {cap : Nat} {L : List α} {φ : Prop} {i : Nat} (hi : H[i]? = some ⟨S, A⟩) (h : ∀ w, A w → SlR T S w a cap L ∨ φ) (hφ : φ → ∀ w, HeapIs w0 H w → Rd T w a cap L) : ∀ w, HeapIs w0 H w → Rd T w a cap L := fun w hw => by
  have g := hw.at hi
  rcases h w g.here with h1 | h1
  · exact h1.mono fun b hb => g.bound b hb
  · exact hφ h1 w hw
theorem p_indexAddrA {t e : TypeId} {len B j j' k i : Nat} {kk : IntKind} (hx : ev F x = some (.pointer (some ⟨B, j, none⟩))) (hy : ev F y = some (.int kk (i : Int))) (hu : P.underlying t = some (.array len e)) (hs : sizeIs P e = some k) (hi : i < len) (hj : j' = j + i * k) :
    Pure ds P n w0 ⟨dst, .indexAddr t x y, ty, pos, after, guard⟩ F H (.pointer (some ⟨B, j', none⟩)) := fun b w hb hw => by
  subst hj
  have e1 : Addr.add ⟨B, j, none⟩ (i * k) = ⟨B, j + i * k, none⟩ := by unfold Addr.add; split <;> simp_all
  have h1 : (i : Int) < (len : Int) := by omega
  simp [execOp, hb.eval hx, hb.eval hy, Instr.indexAt, Instr.sureAddr, asIntOf, run_underlying hu, run_sizeOf hs, h1, e1]
  intro h2; omega
end
end Go.Sx
