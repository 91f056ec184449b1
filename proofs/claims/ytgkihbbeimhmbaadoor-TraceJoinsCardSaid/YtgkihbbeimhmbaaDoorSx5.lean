/- append as a step; results; beginnings and ends of functions. -/
import Derived.Test.YtgkihbbeimhmbaaDoorSx4
namespace Go.Sx
open Go.RowKit

section
variable {α : Type} {P : Program} {n : Nat} {w0 : World} {r : Option Nat} {ds : List Deferred} {Q : Exit → Act → World → Prop} {F F' : List (Nat × Value)} {H H' : List Ent} {ops : Array Oper}
variable {ty : TypeId} {pos : String} {after : Array Edge} {guard : Option (Nat × Bool)} {dst : Option Tmp} {rest : List Oper} {d : Nat} {x y : Operand}
variable {T : Ty α} {a : Option Addr} {cap : Nat} {L : List α} {S : Nat → Prop}

theorem o_append {t tx e : TypeId} {d' : TypeDesc} {bytes i : Nat} {b : Option Addr} {cb : Nat} {M : List α} (hx : ev F x = some (.slice a L.length cap)) (hy : ev F y = some (.slice b M.length cb)) (hi : H[i]? = some (own T S a cap L)) (hM : ∀ w, HeapIs w0 H w → Rd T w b cb M)
    (hu : P.underlying t = some (.slice e)) (hux : P.underlying tx = some d') (hd : ∀ k, d' ≠ .int k) (he : elemIs P e T.k bytes) (hone : ∀ z : α, ∀ v ∈ T.enc z, one1 v = true) (hk : 0 < T.k)
    (hsmall : L.length + M.length ≤ 140737488355328 ∧ (L.length + M.length + (L.length + M.length) / 4 + 1200) * (bytes + 1) ≤ 281474976710656) (hn : Nat.blt d n = true)
    (h : ∀ a' cap' S', SO r ds P n w0 ops Q rest ((d, .slice a' (L ++ M).length cap') :: F) (H.set i (own T S' a' cap' (L ++ M)))) :
    SO r ds P n w0 ops Q (⟨some d, .call { callee := .builtin .append, args := #[x, y], argTypes := #[t, tx] }, ty, pos, after, none⟩ :: rest) F H := fun c w hc hw =>
  wpL_plain rfl (fun _ h => by cases h) fun K hK => by
    obtain ⟨w', a', cap', S', h1, h2, h3, h4, h5, h6⟩ := run_append (P := P) hu hux hd he (fun v hv => by obtain ⟨z, _, hz⟩ := List.mem_flatMap.1 hv; exact hone z v hz) (hw.at hi).here (hw.at hi).bound (hM w hw) hk hsmall ty
    have hrun : (execOp c.eval ⟨some d, .call { callee := .builtin .append, args := #[x, y], argTypes := #[t, tx] }, ty, pos, after, none⟩).run P w = .ok (.value (.slice a' (L ++ M).length cap')) w' := by
      simp only [execOp, resolve, run_bind, run_pure, invoke, builtin, List.map_toArray, List.map_cons, List.map_nil, hc.eval hx, hc.eval hy]
      rw [h1]
    unfold Oper.wp
    rw [hrun]
    exact hK _ _ (h a' cap' S' _ _ (hc.put hn _) (hw.change hi h2 h3 h4 h5 (fun w1 w2 ha hA => SlO.agree ha hA) h6))

theorem HeapIs.ownNil {w : World} (h : HeapIs w0 H w) (T : Ty α) : HeapIs w0 (own T (fun _ => False) none 0 [] :: H) w :=
  ⟨h.same, h.size, fun e he => by
    rcases List.mem_cons.1 he with rfl | he
    · exact ⟨fun w1 w2 ha hA => SlO.agree (T := T) (a := none) (cap := 0) (L := []) ha hA, fun b hb => hb.elim, SlO.nil T w⟩
    · exact h.good e he, List.pairwise_cons.2 ⟨fun e _ b hb => hb.elim, h.apart⟩⟩

theorem o_ownNil (T : Ty α) {l : List Oper} (h : SO r ds P n w0 ops Q l F (own T (fun _ => False) none 0 [] :: H)) : SO r ds P n w0 ops Q l F H := fun a w ha hw => h a w ha (hw.ownNil T)
theorem c_ownNil (T : Ty α) {c : Code} (h : SC r ds P n w0 Q c F (own T (fun _ => False) none 0 [] :: H)) : SC r ds P n w0 Q c F H := fun a w ha hw => h a w ha (hw.ownNil T)

/-! ### Results -/
/-- What the result variables hold. -/
def Res1 (ds : List Deferred) (P : Program) (n : Nat) (w0 : World) (F : List (Nat × Value)) (H : List Ent) (r : ResultVar) (v : Value) : Prop :=
  ∀ a w, Ok n ds F a → HeapIs w0 H w → (match r with | .tmp t => (pure (a.tmps.getD t undef) : Sem Value) | .cell s t => (do loadVar t (← asAddr (a.tmps.getD s undef)))).run P w = .ok v w

theorem r_tmp {t : Nat} {v : Value} (h : lk F t = some v) : Res1 ds P n w0 F H (.tmp t) v := fun a w ha _ => by
  have := ha.knows t v h
  simp [Array.getD_eq_getD_getElem?, this]

theorem r_cell {s i B m : Nat} {t : TypeId} {cs : List Value} {T' : TypeId} (h : lk F s = some (.pointer (some ⟨B, 0, none⟩))) (hi : H[i]? = some (box B cs T')) (ht : shp P t = some (some m)) (hl : cs.length = m) : Res1 ds P n w0 F H (.cell s t) (.agg cs.toArray) := fun a w ha hw => by
  have := ha.knows s _ h
  have hc : ∀ q, q < m → w.cell? (Addr.add ⟨B, 0, none⟩ q) = cs[q]? := fun q _ => by rw [box_cell_add (hw.at hi).here]; simp
  simp [Array.getD_eq_getD_getElem?, this, asAddr, run_loadVar_agg ht hl hc]

theorem r_cell1 {s i B : Nat} {t : TypeId} {v : Value} {T' : TypeId} (h : lk F s = some (.pointer (some ⟨B, 0, none⟩))) (hi : H[i]? = some (box B [v] T')) (ht : shp P t = some none) : Res1 ds P n w0 F H (.cell s t) v := fun a w ha hw => by
  have := ha.knows s _ h
  have hc : w.cell? ⟨B, 0, none⟩ = some v := by rw [box_cell (hw.at hi).here]; rfl
  simp [Array.getD_eq_getD_getElem?, this, asAddr, run_loadVar_one ht hc]

def getR (tmps : Array Value) (r : ResultVar) : Sem Value := match r with
  | .tmp t => pure (tmps.getD t undef)
  | .cell a t => do loadVar t (← asAddr (tmps.getD a undef))

theorem results_eq (fn : Func) (tmps : Array Value) : results fn tmps = (do
  let vs ← fn.results.mapM (getR tmps)
  pure (if h : vs.size = 1 then vs[0] else .tuple vs)) := by
  unfold results
  congr 1

theorem run_results1 {fn : Func} {a : Act} {w : World} {r1 : ResultVar} {v1 : Value} (hr : fn.results = #[r1]) (h1 : (getR a.tmps r1).run P w = .ok v1 w) : (results fn a.tmps).run P w = .ok v1 w := by
  rw [results_eq, hr]; simp [h1]
theorem run_results2 {fn : Func} {a : Act} {w : World} {r1 r2 : ResultVar} {v1 v2 : Value} (hr : fn.results = #[r1, r2]) (h1 : (getR a.tmps r1).run P w = .ok v1 w) (h2 : (getR a.tmps r2).run P w = .ok v2 w) : (results fn a.tmps).run P w = .ok (.tuple #[v1, v2]) w := by
  rw [results_eq, hr]; simp [h1, h2]
theorem run_results3 {fn : Func} {a : Act} {w : World} {r1 r2 r3 : ResultVar} {v1 v2 v3 : Value} (hr : fn.results = #[r1, r2, r3]) (h1 : (getR a.tmps r1).run P w = .ok v1 w) (h2 : (getR a.tmps r2).run P w = .ok v2 w) (h3 : (getR a.tmps r3).run P w = .ok v3 w) :
    (results fn a.tmps).run P w = .ok (.tuple #[v1, v2, v3]) w := by
  rw [results_eq, hr]; simp [h1, h2, h3]
theorem run_results4 {fn : Func} {a : Act} {w : World} {r1 r2 r3 r4 : ResultVar} {v1 v2 v3 v4 : Value} (hr : fn.results = #[r1, r2, r3, r4]) (h1 : (getR a.tmps r1).run P w = .ok v1 w) (h2 : (getR a.tmps r2).run P w = .ok v2 w) (h3 : (getR a.tmps r3).run P w = .ok v3 w)
    (h4 : (getR a.tmps r4).run P w = .ok v4 w) : (results fn a.tmps).run P w = .ok (.tuple #[v1, v2, v3, v4]) w := by
  rw [results_eq, hr]; simp [h1, h2, h3, h4]

/-- What the results are, together. -/
def ResT (ds : List Deferred) (P : Program) (n : Nat) (w0 : World) (F : List (Nat × Value)) (H : List Ent) (fn : Func) (v : Value) : Prop :=
  ∀ a w, Ok n ds F a → HeapIs w0 H w → (results fn a.tmps).run P w = .ok v w

theorem rt1 {fn : Func} {r1 : ResultVar} {v1 : Value} (hr : fn.results = #[r1]) (h1 : Res1 ds P n w0 F H r1 v1) : ResT ds P n w0 F H fn v1 := fun a w ha hw => run_results1 hr (h1 a w ha hw)
theorem rt2 {fn : Func} {r1 r2 : ResultVar} {v1 v2 : Value} (hr : fn.results = #[r1, r2]) (h1 : Res1 ds P n w0 F H r1 v1) (h2 : Res1 ds P n w0 F H r2 v2) : ResT ds P n w0 F H fn (.tuple #[v1, v2]) := fun a w ha hw => run_results2 hr (h1 a w ha hw) (h2 a w ha hw)
theorem rt3 {fn : Func} {r1 r2 r3 : ResultVar} {v1 v2 v3 : Value} (hr : fn.results = #[r1, r2, r3]) (h1 : Res1 ds P n w0 F H r1 v1) (h2 : Res1 ds P n w0 F H r2 v2) (h3 : Res1 ds P n w0 F H r3 v3) : ResT ds P n w0 F H fn (.tuple #[v1, v2, v3]) := fun a w ha hw => run_results3 hr (h1 a w ha hw) (h2 a w ha hw) (h3 a w ha hw)
theorem rt4 {fn : Func} {r1 r2 r3 r4 : ResultVar} {v1 v2 v3 v4 : Value} (hr : fn.results = #[r1, r2, r3, r4]) (h1 : Res1 ds P n w0 F H r1 v1) (h2 : Res1 ds P n w0 F H r2 v2) (h3 : Res1 ds P n w0 F H r3 v3) (h4 : Res1 ds P n w0 F H r4 v4) : ResT ds P n w0 F H fn (.tuple #[v1, v2, v3, v4]) := fun a w ha hw => run_results4 hr (h1 a w ha hw) (h2 a w ha hw) (h3 a w ha hw) (h4 a w ha hw)

/-- What is asked at a function's end. -/
def End0 (w0 : World) (v : Value) : Ending → World → Prop := fun e w' => e = .returned v ∧ Below w0.heap.size w0 w'
def EndM (w0 : World) (π : Type) (val : π → Value) (A : π → (Nat → Prop) → World → Prop) : Ending → World → Prop := fun e w' => ∃ p S, e = .returned (val p) ∧ Below w0.heap.size w0 w' ∧ (∀ b, S b → w0.heap.size ≤ b ∧ b < w'.heap.size) ∧ A p S w'

theorem q_end0 {fn : Func} {v v' : Value} {i : Nat} (hr : ResT [] P n w0 F H fn v) (hi : H[i]? = some (base w0)) (hv : v = v') : SQ [] n w0 (bodyPost P fn (End0 w0 v')) .ret F H := fun a w ha hw =>
  ⟨ha.defers, v, hr a w ha hw, by rw [hv], hw.toBelow hi⟩

/-- The base is apart from whatever else is there. -/
theorem HeapIs.above {w : World} (h : HeapIs w0 H w) {i j : Nat} {e : Ent} (hij : i ≠ j) (hi : H[i]? = some (base w0)) (hj : H[j]? = some e) : ∀ b, e.S b → w0.heap.size ≤ b ∧ b < w.heap.size := fun b hb => by
  refine ⟨?_, (h.at hj).bound b hb⟩
  obtain ⟨l1, g1⟩ := List.getElem?_eq_some_iff.1 hi
  obtain ⟨l2, g2⟩ := List.getElem?_eq_some_iff.1 hj
  have hap := List.pairwise_iff_getElem.1 h.apart
  rcases Nat.lt_or_ge b w0.heap.size with hlt | hge
  · exfalso
    rcases Nat.lt_or_gt_of_ne hij with hl | hl
    · exact hap i j l1 l2 hl b (by rw [g1]; exact hlt) (by rw [g2]; exact hb)
    · exact hap j i l2 l1 hl b (by rw [g2]; exact hb) (by rw [g1]; exact hlt)
  · exact hge

theorem q_endM {fn : Func} {v : Value} {i : Nat} {π : Type} {val : π → Value} {A : π → (Nat → Prop) → World → Prop} (p : π) (S : Nat → Prop) (hr : ResT [] P n w0 F H fn v) (hi : H[i]? = some (base w0)) (hv : v = val p) (hS : ∀ w, HeapIs w0 H w → ∀ b, S b → w0.heap.size ≤ b ∧ b < w.heap.size) (hA : ∀ w, HeapIs w0 H w → A p S w) :
    SQ [] n w0 (bodyPost P fn (EndM w0 π val A)) .ret F H := fun a w ha hw =>
  ⟨ha.defers, v, hr a w ha hw, p, S, by rw [hv], hw.toBelow hi, hS w hw, hA w hw⟩

/-! ### A function's beginning -/
theorem ok_begin (args : List Value) (m : Nat) : Ok (args.length + m) [] ((List.range args.length).zip args) ⟨args.toArray ++ Array.replicate m undef, []⟩ := by
  refine ⟨rfl, by simp, fun t u ht => ?_⟩
  have key : ∀ (l : List Value) (s : Nat), lk ((List.range' s l.length).zip l) t = some u → s ≤ t ∧ l[t - s]? = some u := by
    intro l
    induction l with
    | nil => intro s h; simp [lk] at h
    | cons b l ih =>
      intro s h
      simp only [List.length_cons, List.range'_succ, List.zip_cons_cons] at h
      by_cases e : s = t
      · subst e; rw [lk_cons_eq] at h; simp only [Option.some.injEq] at h; subst h; simp
      · rw [lk_cons_ne e] at h
        obtain ⟨h1, h2⟩ := ih (s + 1) h
        refine ⟨by omega, ?_⟩
        rw [show t - s = (t - (s + 1)) + 1 by omega]; simpa using h2
  have := (key args 0 (by rw [List.range_eq_range'] at ht; exact ht)).2
  have hlt : t < args.length := by
    rcases Nat.lt_or_ge t args.length with h | h
    · exact h
    · rw [Nat.sub_zero, List.getElem?_eq_none h] at this; cases this
  simp only [Nat.sub_zero] at this
  rw [List.getElem?_eq_getElem hlt, Option.some.injEq] at this
  simp [Array.getElem?_append, hlt, this]

theorem fn0 {f : FuncId} {fn : Func} {c : Code} {args : List Value} {Pre : World → Prop} {v : Value} {nt : Nat} {F0 : List (Nat × Value)} (hf : P.funcs[f]? = some fn) (hb : fn.body = some c) (hn : fn.ntmps = nt) (hle : Nat.ble args.length nt = true) (hF : F0 = (List.range args.length).zip args)
    (h : ∀ w0, Pre w0 → SC none [] P nt w0 (bodyPost P fn (End0 w0 v)) c F0 [base w0]) : Fn0 P f args Pre v := fun w hw => by
  refine calls_of_wp hf hb ?_
  have e : args.toArray.size = args.length := by simp
  have hle' : args.length ≤ nt := Nat.le_of_ble_eq_true hle
  have ho := ok_begin args (nt - args.length)
  rw [show args.length + (nt - args.length) = nt by omega, ← hF] at ho
  rw [hn, e]
  exact h w hw _ w ho (HeapIs.begin w)

theorem fnM {f : FuncId} {fn : Func} {c : Code} {args : List Value} {Pre : World → Prop} {π : Type} {val : π → Value} {A : π → (Nat → Prop) → World → Prop} {nt : Nat} {F0 : List (Nat × Value)} (hf : P.funcs[f]? = some fn) (hb : fn.body = some c) (hn : fn.ntmps = nt) (hle : Nat.ble args.length nt = true) (hF : F0 = (List.range args.length).zip args)
    (h : ∀ w0, Pre w0 → SC none [] P nt w0 (bodyPost P fn (EndM w0 π val A)) c F0 [base w0]) : FnM P f args Pre π val A := fun w hw => by
  refine calls_of_wp hf hb ?_
  have e : args.toArray.size = args.length := by simp
  have hle' : args.length ≤ nt := Nat.le_of_ble_eq_true hle
  have ho := ok_begin args (nt - args.length)
  rw [show args.length + (nt - args.length) = nt by omega, ← hF] at ho
  rw [hn, e]
  exact h w hw _ w ho (HeapIs.begin w)

/-! ### Storing an aggregate into a box -/
def setCells (cs : List Value) (j : Nat) (vs : List Value) : List Value := cs.take j ++ vs ++ cs.drop (j + vs.length)

theorem HeapIs.storeN {w : World} (h : HeapIs w0 H w) {i B j : Nat} {cs vs : List Value} {T : TypeId} (hi : H[i]? = some (box B cs T)) (hv : ∀ v ∈ vs, one1 v = true) (hj : j + vs.length ≤ cs.length) :
    ∃ w', (storeCells ⟨B, j, none⟩ vs 0).run P w = .ok () w' ∧ HeapIs w0 (H.set i (box B (setCells cs j vs) T)) w' := by
  have g : w.heap[B]? = some (.cells cs.toArray T (0, 0)) := (h.at hi).here
  obtain ⟨w', c', h1, h2, h3, h4, h5, h6, h7⟩ := run_storeCells (P := P) (b := B) (o := j) vs 0 w cs.toArray T g hv (by simpa using hj)
  refine ⟨w', h1, h.change hi h5 (by omega) (fun b hb => .inl hb) (fun b _ hb => h7 b hb) (fun w1 w2 ha hA => by have := ha B rfl; simp only [box] at *; rw [this]; exact hA) ?_⟩
  show w'.heap[B]? = _
  rw [h2]
  have e : c' = (setCells cs j vs).toArray := by
    apply Array.ext'
    apply List.ext_getElem?
    intro m
    have := h4 m
    simp only [Nat.add_zero] at this
    rw [Array.getElem?_toList, this]
    unfold setCells
    by_cases e1 : j ≤ m ∧ m < j + vs.length
    · rw [if_pos e1]
      simp only [List.append_assoc]
      rw [List.getElem?_append_right (by simp; omega), List.getElem?_append_left (by simp; omega)]
      congr 1; simp; omega
    · rw [if_neg e1]
      rcases Nat.lt_or_ge m j with h' | h'
      · simp only [List.append_assoc]
        rw [List.getElem?_append_left (by simp; omega)]
        simp [List.getElem?_take, h']
      · rw [List.getElem?_append_right (by simp; omega)]
        simp only [List.getElem?_drop, List.length_append, List.length_take]
        rw [List.getElem?_toArray]
        congr 1
        omega
  rw [e]

theorem o_storeN {t : TypeId} {i B j m : Nat} {cs cs' vs : List Value} {T : TypeId} (hx : ev F x = some (.pointer (some ⟨B, j, none⟩))) (hy : ev F y = some (.agg vs.toArray)) (hi : H[i]? = some (box B cs T)) (ht : sizeIs P t = some m) (hm : vs.length = m) (hv : (vs.all one1) = true)
    (hj : Nat.ble (j + vs.length) cs.length = true) (hc : cs' = setCells cs j vs) (h : SO r ds P n w0 ops Q rest F (H.set i (box B cs' T))) : SO r ds P n w0 ops Q (⟨none, .store t x y, ty, pos, after, none⟩ :: rest) F H := fun a w ha hw =>
  wpL_plain rfl (fun _ h => by cases h) fun K hK => by
    subst hc; subst hm
    obtain ⟨w', h1, h2⟩ := hw.storeN (P := P) hi (fun v hv' => List.all_eq_true.1 hv v hv') (Nat.le_of_ble_eq_true hj)
    have hrun : (execOp a.eval ⟨none, .store t x y, ty, pos, after, none⟩).run P w = .ok .skip w' := by
      simp [execOp, ha.eval hx, ha.eval hy, Instr.storeAt, Instr.sureAddr, storeVar, run_bind, run_sizeOf ht, Value.cells, h1]
    unfold Oper.wp
    rw [hrun]
    exact hK _ _ (h _ _ ha h2)
end
end Go.Sx
