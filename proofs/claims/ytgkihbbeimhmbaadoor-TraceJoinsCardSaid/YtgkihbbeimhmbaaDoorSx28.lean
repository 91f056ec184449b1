/- Shorter steps: what an operand holds is read off the frame. -/
import Derived.Test.YtgkihbbeimhmbaaDoorSx27
namespace Go.Sx
open Go.RowKit
section
variable {P : Program} {n : Nat} {w0 : World} {r : Option Nat} {ds : List Deferred} {Q : Exit → Act → World → Prop} {F : List (Nat × Value)} {H Hr : List Ent} {ops : Array Oper}
variable {ty : TypeId} {pos : String} {after : Array Edge} {rest : List Oper} {d : Nat} {v : Value} {c x y : Operand}
theorem o_as (hx : ev F x = some v) (hn : Nat.blt d n = true) (h : SO r ds P n w0 ops Q rest ((d, v) :: F) H) : SO r ds P n w0 ops Q (⟨some d, .assign x, ty, pos, after, none⟩ :: rest) F H := o_pure (p_assign hx) rfl rfl hn h
theorem o_ex {i : Nat} {vs : List Value} (hx : ev F x = some (.tuple vs.toArray)) (hv : vs[i]? = some v) (hn : Nat.blt d n = true) (h : SO r ds P n w0 ops Q rest ((d, v) :: F) H) : SO r ds P n w0 ops Q (⟨some d, .extract x i, ty, pos, after, none⟩ :: rest) F H := o_pure (p_extract hx hv) rfl rfl hn h
theorem w_mv (hx : ev F x = some v) (hn : Nat.blt d n = true) (h : SW ds P n w0 ops Q rest ((d, v) :: F) H) : SW ds P n w0 ops Q (⟨some d, .move x, ty, pos, after, none⟩ :: rest) F H := w_pure (p_move hx) rfl rfl hn h
theorem w_pt (hc : ev F c = some (.bool true)) (hx : ev F x = some v) (hn : Nat.blt d n = true) (h : SW ds P n w0 ops Q rest ((d, v) :: F) H) : SW ds P n w0 ops Q (⟨some d, .pick c x y, ty, pos, after, none⟩ :: rest) F H := w_pure (p_pick_true hc hx) rfl rfl hn h
theorem w_pf (hc : ev F c = some (.bool false)) (hy : ev F y = some v) (hn : Nat.blt d n = true) (h : SW ds P n w0 ops Q rest ((d, v) :: F) H) : SW ds P n w0 ops Q (⟨some d, .pick c x y, ty, pos, after, none⟩ :: rest) F H := w_pure (p_pick_false hc hy) rfl rfl hn h
variable {fuel : Nat} {listed : Array Bool}
theorem h_tk {i : Nat} {o : Oper} {ls : Array Bool} (hi : ops[i]? = some o) (hp : Pure ds P n w0 o F Hr v) (hsub : ∀ w, HeapIs w0 H w → HeapIs w0 Hr w) (k : SH ds P n w0 ops Q Hr fuel ls ((d, v) :: F) H)
    (hs : Region.noSelect ops = true := by kernel_rfl) (hf : Region.free .any ops listed i = true := by kernel_rfl) (hr : (Region.ready .any ops listed).contains i = true := by kernel_rfl) (hQ : ∀ c a w, Q (.panic c) (a.put o.dst v) w → Q (.panic c) a w := by exact fun _ _ _ h => h)
    (hg : o.guard = none := by rfl) (hd : o.dst = some d := by rfl) (hn : Nat.blt d n = true := by rfl) (hls : ls = listed.setIfInBounds i true := by rfl) : SH ds P n w0 ops Q Hr (fuel + 1) listed F H := h_take hi hs hf hr hQ hp hg hd hn hsub hls k
theorem h_t0 {i : Nat} {o : Oper} {ls : Array Bool} (hi : ops[i]? = some o) (hp : Pure ds P n w0 o F H v) (k : SH ds P n w0 ops Q H fuel ls ((d, v) :: F) H)
    (hs : Region.noSelect ops = true := by kernel_rfl) (hf : Region.free .any ops listed i = true := by kernel_rfl) (hr : (Region.ready .any ops listed).contains i = true := by kernel_rfl) (hQ : ∀ c a w, Q (.panic c) (a.put o.dst v) w → Q (.panic c) a w := by exact fun _ _ _ h => h)
    (hg : o.guard = none := by rfl) (hd : o.dst = some d := by rfl) (hn : Nat.blt d n = true := by rfl) (hls : ls = listed.setIfInBounds i true := by rfl) : SH ds P n w0 ops Q H (fuel + 1) listed F H := h_take hi hs hf hr hQ hp hg hd hn (fun _ h => h) hls k
end
end Go.Sx
namespace Go.Sx
open Go.RowKit
abbrev T1 : Bool := true
abbrev F0 : Bool := false
abbrev Vi (z : Int) : Value := .int .i64 z
section
variable {P : Program} {n : Nat} {w0 : World} {r : Option Nat} {ds : List Deferred} {Q : Exit → Act → World → Prop} {F F' : List (Nat × Value)} {H Hr : List Ent} {ops : Array Oper}
theorem lj {α : Type _} {a : α} {l1 l2 : List α} (h : List.Sublist l1 l2) : List.Sublist (a :: l1) (a :: l2) := List.Sublist.cons_cons a h
theorem lz {α : Type _} {a : α} {l1 l2 : List α} (h : List.Sublist l1 l2) : List.Sublist l1 (a :: l2) := List.Sublist.cons a h
theorem ln {α : Type _} : List.Sublist ([] : List α) [] := List.Sublist.slnil
theorem lr {α : Type _} {l : List α} : List.Sublist l l := List.Sublist.refl l
theorem dp (h : Hr.Sublist H) : ∀ w, HeapIs w0 H w → HeapIs w0 Hr w := fun _ hw => HeapIs.drop hw h
theorem pk {H H' : List Ent} (is : List Nat) (hn : is.Nodup := by decide) (hH : is.map (H[·]?) = H'.map some := by rfl) : ∀ w, HeapIs w0 H w → HeapIs w0 H' w := fun _ hw => HeapIs.pick hw is hn hH
theorem sr {s : Nat} {v : Value} (h : Sub F F') (h1 : lk F s = some v := by rfl) : Sub F ((s, v) :: F') := Sub.cons h1 h
theorem o_p {o : Oper} {d : Nat} {v : Value} {rest : List Oper} (hp : Pure ds P n w0 o F H v) (h : SO r ds P n w0 ops Q rest ((d, v) :: F) H) (hg : o.guard = none := by rfl) (hd : o.dst = some d := by rfl) (hn : Nat.blt d n = true := by rfl) : SO r ds P n w0 ops Q (o :: rest) F H := o_pure hp hg hd hn h
theorem w_p {o : Oper} {d : Nat} {v : Value} {rest : List Oper} (hp : Pure ds P n w0 o F H v) (h : SW ds P n w0 ops Q rest ((d, v) :: F) H) (hg : o.guard = none := by rfl) (hd : o.dst = some d := by rfl) (hn : Nat.blt d n = true := by rfl) : SW ds P n w0 ops Q (o :: rest) F H := w_pure hp hg hd hn h
end
end Go.Sx
