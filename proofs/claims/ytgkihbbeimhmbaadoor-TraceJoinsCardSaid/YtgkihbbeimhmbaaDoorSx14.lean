/- Owned slices of which only the length is known; other names for what is known. -/
import Derived.Test.YtgkihbbeimhmbaaDoorSx13
namespace Go.Sx
open Go.RowKit
section
variable {α : Type} {P : Program} {n : Nat} {w0 : World} {r : Option Nat} {ds : List Deferred} {Q : Exit → Act → World → Prop} {F F' : List (Nat × Value)} {H H' : List Ent} {ops : Array Oper}
variable {ty : TypeId} {pos : String} {after : Array Edge} {guard : Option (Nat × Bool)} {dst : Option Tmp} {rest : List Oper} {d : Nat} {x y : Operand}
variable {T : Ty α} {a : Option Addr} {cap : Nat} {L : List α} {S : Nat → Prop}
def ownE (T : Ty α) (S : Nat → Prop) (a : Option Addr) (cap : Nat) (m : Nat) : Ent := ⟨S, fun w => ∃ L : List α, L.length = m ∧ SlO T S w a cap L⟩
theorem HeapIs.toE {w : World} {i m : Nat} (hi : H[i]? = some (own T S a cap L)) (hm : L.length = m) (hw : HeapIs w0 H w) : HeapIs w0 (H.set i (ownE T S a cap m)) w := by
  have g := hw.at hi
  exact hw.change hi ⟨rfl, rfl, rfl⟩ (Nat.le_refl _) (fun b hb => .inl hb) (fun _ _ _ => rfl) (fun w1 w2 ha ⟨L', h1, h2⟩ => ⟨L', h1, SlO.agree ha h2⟩) ⟨L, hm, g.here⟩
theorem p_indexAddrE {t e : TypeId} {k : IntKind} {i : Int} {j m : Nat} (hx : ev F x = some (.slice a m cap)) (hy : ev F y = some (.int k i)) (hj : H[j]? = some (ownE T S a cap m)) (hu : P.underlying t = some (.slice e)) (hs : sizeIs P e = some T.k)
    (h0 : 0 ≤ i) (h1 : i < (m : Int)) : Pure ds P n w0 ⟨dst, .indexAddr t x y, ty, pos, after, guard⟩ F H (.pointer (some (ea a (i.toNat * T.k)))) := fun b w hb hw => by
  obtain ⟨L', h2, h3⟩ := (hw.at hj).here
  obtain ⟨z, rfl, hz⟩ := (SlO.toR h3).nonnil (by omega)
  simp [execOp, hb.eval hx, hb.eval hy, Instr.indexAt, asIntOf, run_underlying hu, run_sizeOf hs, h0, h1, ea]
/-- s[len(s):h], within the capacity -/
theorem p_sliceTail {t e : TypeId} {z : Operand} {k k2 : IntKind} {h : Int} {i m : Nat} (hx : ev F x = some (.slice a L.length cap)) (hy : ev F y = some (.int k (L.length : Int))) (hz : ev F z = some (.int k2 h)) (hi : H[i]? = some (own T S a cap L)) (hu : P.underlying t = some (.slice e)) (hs : sizeIs P e = some T.k) (hc : L.length + m ≤ cap ∧ h = (L.length : Int) + m) :
    Pure ds P n w0 ⟨dst, .slice t x (some y) (some z) none, ty, pos, after, guard⟩ F H (.slice (sa a cap L.length T.k) m (cap - L.length)) := by
  have hh : h = ((L.length + m : Nat) : Int) := by omega
  exact p_slice (l := L.length) (hi := L.length + m) (m := cap) (lv := some (.int k L.length)) (hv := some (.int k2 h)) (mv := none) hx (by simp [hy]) (by simp [hz]) rfl hu hs (.inr ⟨k, rfl⟩) (.inr ⟨k2, by rw [← hh]⟩) (.inl ⟨rfl, rfl⟩) (fun h => by cases h) (by omega) (by omega) (Nat.le_refl _) (by omega)
theorem c_know {φ : Prop} {c : Code} (hp : ∀ w, HeapIs w0 H w → φ) (h : φ → SC r ds P n w0 Q c F H) : SC r ds P n w0 Q c F H := fun a w ha hw => h (hp w hw) a w ha hw
theorem o_know {φ : Prop} {l : List Oper} (hp : ∀ w, HeapIs w0 H w → φ) (h : φ → SO r ds P n w0 ops Q l F H) : SO r ds P n w0 ops Q l F H := fun a w ha hw => h (hp w hw) a w ha hw
theorem q_know {φ : Prop} {e : Exit} (hp : ∀ w, HeapIs w0 H w → φ) (h : φ → SQ ds n w0 Q e F H) : SQ ds n w0 Q e F H := fun a w ha hw => h (hp w hw) a w ha hw
theorem own_len {w : World} {i : Nat} (hw : HeapIs w0 H w) (hi : H[i]? = some (own T S a cap L)) : L.length ≤ cap ∧ L.length ≤ 140737488355328 := by
  have g : SlO T S w a cap L := (hw.at hi).here
  exact ⟨g.1, g.2.1⟩
/-- what lies in one entry lies outside of others -/
theorem rdX {i : Nat} {e : Ent} {pre : List Ent} {js : List Nat} (hi : H[i]? = some e) (hj : i ∉ js) (hp : js.map (H[·]?) = pre.map some) (h : ∀ w, e.A w → SlR T e.S w a cap L) : ∀ w, HeapIs w0 H w → SlR T (outer w pre).S w a cap L := fun w hw => by
  have g := hw.at hi
  refine (h w g.here).mono fun b hb => ⟨g.bound b hb, fun ⟨f, hf, hfb⟩ => ?_⟩
  obtain ⟨k, hk, rfl⟩ := List.mem_iff_getElem.1 hf
  have hlen : js.length = pre.length := by simpa using congrArg List.length hp
  have h3 := congrArg (·[k]?) hp
  simp only [List.getElem?_map, List.getElem?_eq_getElem hk, List.getElem?_eq_getElem (show k < js.length by omega), Option.map_some, Option.some.injEq] at h3
  obtain ⟨q1, q2⟩ := List.getElem?_eq_some_iff.1 hi
  obtain ⟨r1, r2⟩ := List.getElem?_eq_some_iff.1 h3
  have hne : i ≠ js[k] := fun e => hj (e ▸ List.getElem_mem _)
  have hap := List.pairwise_iff_getElem.1 hw.apart
  rcases Nat.lt_or_gt_of_ne hne with hl | hl
  · exact hap _ _ q1 r1 hl b (by rw [q2]; exact hb) (by rw [r2]; exact hfb)
  · exact hap _ _ r1 q1 hl b (by rw [r2]; exact hfb) (by rw [q2]; exact hb)
theorem slR_base {w : World} (h : Rd T w0 a cap L) (hA : (base w0).A w) : SlR T (base w0).S w a cap L := SlR.agree (fun b hb => hA b hb) h
theorem slR_outer {w : World} {pre : List Ent} (h : SlR T (outer w0 pre).S w0 a cap L) (hA : (outer w0 pre).A w) : SlR T (outer w0 pre).S w a cap L := SlR.agree (fun b hb => hA b hb.1 hb.2) h
/-- A slice that lies in S, or another one (φ). -/
def loose (T : Ty α) (φ : Prop) (S : Nat → Prop) (a : Option Addr) (cap : Nat) (L : List α) : Ent := ⟨S, fun w => SlR T S w a cap L ∨ φ⟩
theorem loose_st {φ : Prop} {w1 w2 : World} (ha : Agree S w1 w2) (h : SlR T S w1 a cap L ∨ φ) : SlR T S w2 a cap L ∨ φ := h.imp (fun h => SlR.agree ha h) id
theorem HeapIs.push0 {w : World} {A : World → Prop} (hw : HeapIs w0 H w) (hst : ∀ w1 w2, Agree (fun _ => False) w1 w2 → A w1 → A w2) (h : A w) : HeapIs w0 (⟨fun _ => False, A⟩ :: H) w :=
  ⟨hw.same, hw.size, fun e he => by
    rcases List.mem_cons.1 he with rfl | he
    · exact ⟨hst, fun b hb => hb.elim, h⟩
    · exact hw.good e he, List.pairwise_cons.2 ⟨fun e _ b hb => hb.elim, hw.apart⟩⟩
theorem HeapIs.looseOf {φ : Prop} {w : World} (h : φ) (hw : HeapIs w0 H w) : HeapIs w0 (loose T φ (fun _ => False) a cap L :: H) w := hw.push0 (fun _ _ ha h => loose_st ha h) (.inr h)
theorem HeapIs.looseNil {φ : Prop} {w : World} (T : Ty α) (hw : HeapIs w0 H w) : HeapIs w0 (loose T φ (fun _ => False) none 0 ([] : List α) :: H) w := hw.push0 (fun _ _ ha h => loose_st ha h) (.inl (SlR.nil _ _ _))
theorem HeapIs.toLoose {φ : Prop} {w : World} {i : Nat} (hi : H[i]? = some (own T S a cap L)) (hw : HeapIs w0 H w) : HeapIs w0 (H.set i (loose T φ S a cap L)) w := by
  have g := hw.at hi
  exact hw.change hi ⟨rfl, rfl, rfl⟩ (Nat.le_refl _) (fun b hb => .inl hb) (fun _ _ _ => rfl) (fun w1 w2 ha h => loose_st ha h) (.inl (SlO.toR g.here))
theorem HeapIs.entLoose {φ : Prop} {w : World} {i : Nat} {A : World → Prop} (hi : H[i]? = some ⟨S, A⟩) (h : ∀ w, A w → SlR T S w a cap L) (hw : HeapIs w0 H w) : HeapIs w0 (H.set i (loose T φ S a cap L)) w := by
  have g := hw.at hi
  exact hw.change hi ⟨rfl, rfl, rfl⟩ (Nat.le_refl _) (fun b hb => .inl hb) (fun _ _ _ => rfl) (fun w1 w2 ha h => loose_st ha h) (.inl (h w g.here))
theorem rd_loose {φ : Prop} {i : Nat} (hi : H[i]? = some (loose T φ S a cap L)) (h : φ → ∀ w, HeapIs w0 H w → Rd T w a cap L) : ∀ w, HeapIs w0 H w → Rd T w a cap L := fun w hw => by
  have g := hw.at hi
  rcases g.here with h1 | h1
  · exact h1.mono g.bound
  · exact h h1 w hw
theorem rdX_loose {φ : Prop} {i : Nat} {pre : List Ent} {js : List Nat} (hi : H[i]? = some (loose T φ S a cap L)) (hj : i ∉ js) (hp : js.map (H[·]?) = pre.map some) (h : φ → ∀ w, HeapIs w0 H w → SlR T (outer w pre).S w a cap L) : ∀ w, HeapIs w0 H w → SlR T (outer w pre).S w a cap L := fun w hw => by
  have g := hw.at hi
  rcases g.here with h1 | h1
  · have h2 : HeapIs w0 (H.set i ⟨S, fun w => SlR T S w a cap L⟩) w := hw.change hi ⟨rfl, rfl, rfl⟩ (Nat.le_refl _) (fun b hb => .inl hb) (fun _ _ _ => rfl) (fun w1 w2 ha h => SlR.agree ha h) h1
    refine rdX (i := i) (js := js) (e := ⟨S, fun w => SlR T S w a cap L⟩) ?_ hj ?_ (fun _ h => h) w h2
    · obtain ⟨q1, _⟩ := List.getElem?_eq_some_iff.1 hi
      simp [q1]
    · rw [← hp]
      refine List.map_congr_left fun k hk => ?_
      have hne : i ≠ k := fun e => hj (by rw [e]; exact hk)
      rw [List.getElem?_set_ne hne]
  · exact h h1 w hw
theorem c_heap {c : Code} (hH : ∀ w, HeapIs w0 H w → HeapIs w0 H' w) (h : SC r ds P n w0 Q c F H') : SC r ds P n w0 Q c F H := fun a w ha hw => h a w ha (hH w hw)
theorem o_heap {l : List Oper} (hH : ∀ w, HeapIs w0 H w → HeapIs w0 H' w) (h : SO r ds P n w0 ops Q l F H') : SO r ds P n w0 ops Q l F H := fun a w ha hw => h a w ha (hH w hw)
theorem q_heap {e : Exit} (hH : ∀ w, HeapIs w0 H w → HeapIs w0 H' w) (h : SQ ds n w0 Q e F H') : SQ ds n w0 Q e F H := fun a w ha hw => h a w ha (hH w hw)
theorem rt0 {fn : Func} (hr : fn.results = #[]) : ResT ds P n w0 F H fn (.tuple #[]) := fun a w _ _ => by
  simp [results, hr]
theorem q_cast {e : Exit} (hF : Sub F F') (hH : H = H') (h : SQ ds n w0 Q e F' H') : SQ ds n w0 Q e F H := fun a w ha hw => h a w (ha.sub hF) (hH ▸ hw)
theorem o_cast {l : List Oper} (hF : Sub F F') (hH : H = H') (h : SO r ds P n w0 ops Q l F' H') : SO r ds P n w0 ops Q l F H := fun a w ha hw => h a w (ha.sub hF) (hH ▸ hw)
theorem c_cast {c : Code} (hF : Sub F F') (hH : H = H') (h : SC r ds P n w0 Q c F' H') : SC r ds P n w0 Q c F H := fun a w ha hw => h a w (ha.sub hF) (hH ▸ hw)
end
end Go.Sx
