/- Guarded operations in a region whose order is open: the guard's value is known. -/
import Derived.Test.YthecfjipaepcgaaSx25
namespace Go.Sx
open Go.RowKit
section
variable {P : Program} {n : Nat} {w0 : World} {ds : List Deferred} {Q : Exit → Act → World → Prop} {F : List (Nat × Value)} {H Hr : List Ent} {ops : Array Oper} {d fuel : Nat} {listed : Array Bool}
theorem h_takeG {i g : Nat} {want : Bool} {o : Oper} {v : Value} {ls : Array Bool} (hi : ops[i]? = some o) (hs : Region.noSelect ops = true) (hf : Region.free .any ops listed i = true) (hr : (Region.ready .any ops listed).contains i = true)
    (hQ : ∀ c a w, Q (.panic c) (a.put o.dst v) w → Q (.panic c) a w) (hp : Pure ds P n w0 o F Hr v) (hg : o.guard = some (g, want)) (dg : Nat) (hdg : ((ops[g]?).bind (·.dst)) = some dg) (hb : lk F dg = some (.bool want)) (hd : o.dst = some d) (hn : Nat.blt d n = true) (hsub : ∀ w, HeapIs w0 H w → HeapIs w0 Hr w) (hls : ls = listed.setIfInBounds i true)
    (k : SH ds P n w0 ops Q Hr fuel ls ((d, v) :: F) H) : SH ds P n w0 ops Q Hr (fuel + 1) listed F H := fun a w ha hw => by
  subst hls
  refine wpAnyH_take hi hs hf hr hQ (.inl ⟨by simp [Region.wanted, yielded, hg, hdg, ha.knows dg _ hb], fun w' hw' => hp a w' ha hw'⟩) (hsub w hw) ?_
  rw [hd]
  exact k _ w (ha.put hn v) hw
theorem h_takeNo {i g : Nat} {want b : Bool} {o : Oper} {ls : Array Bool} (hi : ops[i]? = some o) (hs : Region.noSelect ops = true) (hf : Region.free .any ops listed i = true) (hr : (Region.ready .any ops listed).contains i = true)
    (hQ : ∀ c a w, Q (.panic c) (a.put o.dst undef) w → Q (.panic c) a w) (hg : o.guard = some (g, want)) (dg : Nat) (hdg : ((ops[g]?).bind (·.dst)) = some dg) (hb : lk F dg = some (.bool b)) (hne : (b == want) = false) (hd : o.dst = some d) (hn : Nat.blt d n = true) (hsub : ∀ w, HeapIs w0 H w → HeapIs w0 Hr w) (hls : ls = listed.setIfInBounds i true)
    (k : SH ds P n w0 ops Q Hr fuel ls ((d, undef) :: F) H) : SH ds P n w0 ops Q Hr (fuel + 1) listed F H := fun a w ha hw => by
  subst hls
  refine wpAnyH_take hi hs hf hr hQ (.inr ⟨by simp [Region.wanted, yielded, hg, hdg, ha.knows dg _ hb, hne], rfl⟩) (hsub w hw) ?_
  rw [hd]
  exact k _ w (ha.put hn undef) hw
/-- a comparison whose outcome is known -/
theorem p_known {o : Oper} {b c : Bool} (e : b = c) (h : Pure ds P n w0 o F H (.bool b)) : Pure ds P n w0 o F H (.bool c) := e ▸ h
end
end Go.Sx
