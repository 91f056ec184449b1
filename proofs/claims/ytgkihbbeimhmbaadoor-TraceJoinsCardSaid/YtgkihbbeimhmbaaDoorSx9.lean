/- Comparing structs. -/
import Derived.Test.YtgkihbbeimhmbaaDoorSx8
import Derived.ChangeKeysEq
import Derived.Laws.StructEq
namespace Go.Sx
open Go.RowKit
variable {P : Program} {n : Nat} {w0 : World} {r : Option Nat} {ds : List Deferred} {F : List (Nat × Value)} {H : List Ent}
/-- The fields compare so. -/
def FE (P : Program) (xs ys : Array Value) (fs : List Field) (r : Bool) : Prop := ∀ d w, (Op.eqFields (d + 1) xs ys fs).run P w = .ok r w
theorem FE.nil {xs ys : Array Value} : FE P xs ys [] true := fun d w => by simp [Op.eqFields]
theorem FE.cons {xs ys : Array Value} {f : Field} {fs : List Field} {a b : Value} {r s : Bool} (hn : f.name ≠ "_") (hp : P.plainKey f.type = true) (hx : xs[f.offset]? = some a) (hy : ys[f.offset]? = some b) (he : ∀ d w, (Op.equalIn (d + 1) f.type a b).run P w = .ok s w)
    (h : FE P xs ys fs r) : FE P xs ys (f :: fs) (s && r) := fun d w => by
  simp only [Op.eqFields, hn, ne_eq, not_false_eq_true, if_true, Sem.run_bind, run_part_plain w hp hx, run_part_plain w hp hy, he, Result.andThen_ok]
  cases s
  · simp
  · simpa using h d w
theorem FE.int {xs ys : Array Value} {f : Field} {fs : List Field} {k : IntKind} {a b : Int} {r : Bool} (hn : f.name ≠ "_") (hu : P.underlying f.type = some (.int k)) (hx : xs[f.offset]? = some (.int k a)) (hy : ys[f.offset]? = some (.int k b))
    (h : FE P xs ys fs r) : FE P xs ys (f :: fs) ((a == b) && r) :=
  FE.cons hn (by simp [Program.plainKey, hu]) hx hy (fun d w => by simp [Op.equalIn, run_underlying hu]) h
theorem FE.int1 {xs ys : Array Value} {f : Field} {k : IntKind} {a b : Int} (hn : f.name ≠ "_") (hu : P.underlying f.type = some (.int k)) (hx : xs[f.offset]? = some (.int k a)) (hy : ys[f.offset]? = some (.int k b)) : FE P xs ys [f] (a == b) := by
  have := FE.int hn hu hx hy (FE.nil (P := P) (xs := xs) (ys := ys))
  simpa using this
theorem FE.bool {xs ys : Array Value} {f : Field} {fs : List Field} {a b : Bool} {r : Bool} (hn : f.name ≠ "_") (hu : P.underlying f.type = some .bool) (hx : xs[f.offset]? = some (.bool a)) (hy : ys[f.offset]? = some (.bool b))
    (h : FE P xs ys fs r) : FE P xs ys (f :: fs) ((a == b) && r) :=
  FE.cons hn (by simp [Program.plainKey, hu]) hx hy (fun d w => by simp [Op.equalIn, run_underlying hu]) h
theorem FE.bool1 {xs ys : Array Value} {f : Field} {a b : Bool} (hn : f.name ≠ "_") (hu : P.underlying f.type = some .bool) (hx : xs[f.offset]? = some (.bool a)) (hy : ys[f.offset]? = some (.bool b)) : FE P xs ys [f] (a == b) := by
  have := FE.bool hn hu hx hy (FE.nil (P := P) (xs := xs) (ys := ys))
  simpa using this
/-- Two structs compare so. -/
def EqS (P : Program) (t : TypeId) (xs ys : List Value) (r : Bool) : Prop := P.eqGuardType P.depth t = false ∧ ∀ d w, (Op.equalIn (d + 2) t (.agg xs.toArray) (.agg ys.toArray)).run P w = .ok r w
theorem EqS.mk' {t : TypeId} {xs ys : List Value} {r : Bool} {fs : List Field} (hg : P.eqGuardType P.depth t = false) (ht : P.underlying t = some (.struct fs.toArray)) (hp : P.stoodInHeld t = false) (h : FE P xs.toArray ys.toArray fs r) : EqS P t xs ys r := by
  have hf : P.fieldsOf t = fs.toArray := by simp [Program.fieldsOf, ht]
  refine ⟨hg, fun d w => ?_⟩
  rw [run_equalIn_struct w (d + 1) t _ _ (by rw [hf]; exact ht) hp, hf]
  exact h d w
variable {ty : TypeId} {pos : String} {after : Array Edge} {guard : Option (Nat × Bool)} {dst : Option Tmp} {tx tY : TypeId} {x y : Operand}
theorem p_eqStruct {xs ys : List Value} {r : Bool} (hx : ev F x = some (.agg xs.toArray)) (hy : ev F y = some (.agg ys.toArray)) (h : EqS P tx xs ys r) : Pure ds P n w0 ⟨dst, .binOp .eql tx x y tY, ty, pos, after, guard⟩ F H (.bool r) := fun a w ha _ => by
  simp [execOp, ha.eval hx, ha.eval hy, run_eqGuard_agg w _ _ _ _ _ _ h.1, run_eql_struct, h.2 9998]
theorem p_neStruct {xs ys : List Value} {r : Bool} (hx : ev F x = some (.agg xs.toArray)) (hy : ev F y = some (.agg ys.toArray)) (h : EqS P tx xs ys r) : Pure ds P n w0 ⟨dst, .binOp .neq tx x y tY, ty, pos, after, guard⟩ F H (.bool (!r)) := fun a w ha _ => by
  have h2 : (Op.equal tx (.agg xs.toArray) (.agg ys.toArray)).run P w = .ok r w := h.2 9998 w
  simp [execOp, ha.eval hx, ha.eval hy, run_eqGuard_agg w _ _ _ _ _ _ h.1, binOp, h2]

/-! ### A struct that came in -/
section
open Go.ChangeShapes Go.WideShapes
theorem open_agg {α Hh : Type} {enc : TypeId × Value → Hh} {w : World} {T : Ty α} {WF : α → Prop} {t : TypeId} {v : Value} {dd : DataW Hh} {ps : List MemPlace} {b0 : Nat} {r : Reach} {fs : Array Field} (ht : P.underlying t = some (.struct fs)) (hT : ElTy P t T WF)
    (hv : Value.okWide P w r b0 t v) (h : DataW.Trod enc P w 0 (fun _ => true) true t v dd ps) : ∃ z, v = .agg (T.enc z).toArray ∧ WF z := by
  obtain ⟨cs, rfl, _⟩ := okWide_struct ht hv
  obtain ⟨m, hm⟩ := h
  obtain ⟨z, e, hz⟩ := hT.2.2 enc w m _ _ hm
  refine ⟨z, ?_, hz⟩
  simp only [Value.cells] at e
  rw [← e]
end

/-! ### The ways of a condition meet again -/
theorem c_join {Q : Exit → Act → World → Prop} {c : Code} {G : Type} (FE : G → List (Nat × Value)) (HE : G → List Ent) (I : G → Prop) (hr_ : ∀ K : Act → World → Prop, (∀ g, I g → ∀ a w, Ok n ds (FE g) a → HeapIs w0 (HE g) w → K a w) → SC r ds P n w0 (Exit.then K Q) c F H) (k : ∀ g, I g → SQ ds n w0 Q .normal (FE g) (HE g)) : SC r ds P n w0 Q c F H := fun a w ha hw =>
  wpC_mono (fun e a' w' h => by
    cases e with
    | normal => obtain ⟨g, h0, h1, h2⟩ := h; exact k g h0 a' w' h1 h2
    | _ => exact h) (hr_ (fun a' w' => ∃ g, I g ∧ Ok n ds (FE g) a' ∧ HeapIs w0 (HE g) w') (fun g h0 a' w' h1 h2 => ⟨g, h0, h1, h2⟩) a w ha hw)
theorem q_join {Q : Exit → Act → World → Prop} {G : Type} {FE : G → List (Nat × Value)} {HE : G → List Ent} {I : G → Prop} {K : Act → World → Prop} (hK : ∀ g, I g → ∀ a w, Ok n ds (FE g) a → HeapIs w0 (HE g) w → K a w) (g : G) (hI : I g) (hF : Sub F (FE g)) (hH : ∀ w, HeapIs w0 H w → HeapIs w0 (HE g) w) : SQ ds n w0 (Exit.then K Q) .normal F H :=
  fun _ w ha hw => hK g hI _ w (ha.sub hF) (hH w hw)

/-! ### Builtins on whole numbers -/
theorem p_max {ats : Array TypeId} {k : IntKind} {p q : Int} (hx : ev F x = some (.int k p)) (hy : ev F y = some (.int k q)) : Pure ds P n w0 ⟨dst, .call { callee := .builtin .max, args := #[x, y], argTypes := ats }, ty, pos, after, guard⟩ F H (.int k (max p q)) := fun b w hb _ => by
  have e : (if p < q then q else p) = max p q := by omega
  simp [execOp, resolve, invoke, builtin, Builtin.max_, Builtin.max2, hb.eval hx, hb.eval hy, e]
theorem p_min {ats : Array TypeId} {k : IntKind} {p q : Int} (hx : ev F x = some (.int k p)) (hy : ev F y = some (.int k q)) : Pure ds P n w0 ⟨dst, .call { callee := .builtin .min, args := #[x, y], argTypes := ats }, ty, pos, after, guard⟩ F H (.int k (min p q)) := fun b w hb _ => by
  have e : (if q < p then q else p) = min p q := by omega
  simp [execOp, resolve, invoke, builtin, Builtin.min_, Builtin.min2, hb.eval hx, hb.eval hy, e]
end Go.Sx
