/- Arithmetic, comparisons, calls, loops, regions that draw their order. -/
import Derived.Test.YtgkihbbeimhmbaaDoorSx2
namespace Go.Sx
open Go.RowKit

section
variable {P : Program} {n : Nat} {w0 : World} {r : Option Nat} {ds : List Deferred} {Q : Exit → Act → World → Prop} {F F' : List (Nat × Value)} {H H' : List Ent} {ops : Array Oper}
variable {ty : TypeId} {pos : String} {after : Array Edge} {guard : Option (Nat × Bool)} {dst : Option Tmp} {rest : List Oper} {d : Nat} {tx tY : TypeId} {x y : Operand} {k : IntKind} {p q : Int}

/-! ### Integers -/
theorem wrap_i64 {z : Int} (h : -9223372036854775808 ≤ z ∧ z ≤ 9223372036854775807) : IntKind.i64.wrap z = z := by
  simp [IntKind.wrap, IntKind.bits, IntKind.signed]; omega

theorem p_add (hx : ev F x = some (.int k p)) (hy : ev F y = some (.int k q)) : Pure ds P n w0 ⟨dst, .binOp .add tx x y tY, ty, pos, after, guard⟩ F H (.int k (k.wrap (p + q))) := fun a w ha _ => by
  simp [execOp, ha.eval hx, ha.eval hy, eqGuard, binOp, Op.intArith]
theorem p_sub (hx : ev F x = some (.int k p)) (hy : ev F y = some (.int k q)) : Pure ds P n w0 ⟨dst, .binOp .sub tx x y tY, ty, pos, after, guard⟩ F H (.int k (k.wrap (p - q))) := fun a w ha _ => by
  simp [execOp, ha.eval hx, ha.eval hy, eqGuard, binOp, Op.intArith]
theorem p_mul (hx : ev F x = some (.int k p)) (hy : ev F y = some (.int k q)) : Pure ds P n w0 ⟨dst, .binOp .mul tx x y tY, ty, pos, after, guard⟩ F H (.int k (k.wrap (p * q))) := fun a w ha _ => by
  simp [execOp, ha.eval hx, ha.eval hy, eqGuard, binOp, Op.intArith]
theorem p_addb (hx : ev F x = some (.int .i64 p)) (hy : ev F y = some (.int .i64 q)) (hb : -9223372036854775808 ≤ p + q ∧ p + q ≤ 9223372036854775807) : Pure ds P n w0 ⟨dst, .binOp .add tx x y tY, ty, pos, after, guard⟩ F H (.int .i64 (p + q)) := by
  have := p_add (P := P) (n := n) (w0 := w0) (ds := ds) (dst := dst) (tx := tx) (tY := tY) (ty := ty) (pos := pos) (after := after) (guard := guard) (H := H) hx hy
  rwa [wrap_i64 hb] at this
theorem p_subb (hx : ev F x = some (.int .i64 p)) (hy : ev F y = some (.int .i64 q)) (hb : -9223372036854775808 ≤ p - q ∧ p - q ≤ 9223372036854775807) : Pure ds P n w0 ⟨dst, .binOp .sub tx x y tY, ty, pos, after, guard⟩ F H (.int .i64 (p - q)) := by
  have := p_sub (P := P) (n := n) (w0 := w0) (ds := ds) (dst := dst) (tx := tx) (tY := tY) (ty := ty) (pos := pos) (after := after) (guard := guard) (H := H) hx hy
  rwa [wrap_i64 hb] at this
theorem p_mulb (hx : ev F x = some (.int .i64 p)) (hy : ev F y = some (.int .i64 q)) (hb : -9223372036854775808 ≤ p * q ∧ p * q ≤ 9223372036854775807) : Pure ds P n w0 ⟨dst, .binOp .mul tx x y tY, ty, pos, after, guard⟩ F H (.int .i64 (p * q)) := by
  have := p_mul (P := P) (n := n) (w0 := w0) (ds := ds) (dst := dst) (tx := tx) (tY := tY) (ty := ty) (pos := pos) (after := after) (guard := guard) (H := H) hx hy
  rwa [wrap_i64 hb] at this
theorem p_quo (hx : ev F x = some (.int k p)) (hy : ev F y = some (.int k q)) (h0 : q ≠ 0) : Pure ds P n w0 ⟨dst, .binOp .quo tx x y tY, ty, pos, after, guard⟩ F H (.int k (k.wrap (p.tdiv q))) := fun a w ha _ => by
  simp [execOp, ha.eval hx, ha.eval hy, eqGuard, binOp, Op.intDiv, h0]
theorem p_rem (hx : ev F x = some (.int k p)) (hy : ev F y = some (.int k q)) (h0 : q ≠ 0) : Pure ds P n w0 ⟨dst, .binOp .rem tx x y tY, ty, pos, after, guard⟩ F H (.int k (p.tmod q)) := fun a w ha _ => by
  simp [execOp, ha.eval hx, ha.eval hy, eqGuard, binOp, Op.intDiv, h0]
theorem p_eq (hx : ev F x = some (.int k p)) (hy : ev F y = some (.int k q)) : Pure ds P n w0 ⟨dst, .binOp .eql tx x y tY, ty, pos, after, guard⟩ F H (.bool (p == q)) := fun a w ha _ => by
  simp [execOp, ha.eval hx, ha.eval hy, eqGuard, binOp, Op.intCmp]
theorem p_ne (hx : ev F x = some (.int k p)) (hy : ev F y = some (.int k q)) : Pure ds P n w0 ⟨dst, .binOp .neq tx x y tY, ty, pos, after, guard⟩ F H (.bool (p != q)) := fun a w ha _ => by
  simp [execOp, ha.eval hx, ha.eval hy, eqGuard, binOp, Op.intCmp]
theorem p_lt (hx : ev F x = some (.int k p)) (hy : ev F y = some (.int k q)) : Pure ds P n w0 ⟨dst, .binOp .lss tx x y tY, ty, pos, after, guard⟩ F H (.bool (decide (p < q))) := fun a w ha _ => by
  simp [execOp, ha.eval hx, ha.eval hy, eqGuard, binOp, Op.intCmp]
theorem p_le (hx : ev F x = some (.int k p)) (hy : ev F y = some (.int k q)) : Pure ds P n w0 ⟨dst, .binOp .leq tx x y tY, ty, pos, after, guard⟩ F H (.bool (decide (p ≤ q))) := fun a w ha _ => by
  simp [execOp, ha.eval hx, ha.eval hy, eqGuard, binOp, Op.intCmp]
theorem p_gt (hx : ev F x = some (.int k p)) (hy : ev F y = some (.int k q)) : Pure ds P n w0 ⟨dst, .binOp .gtr tx x y tY, ty, pos, after, guard⟩ F H (.bool (decide (q < p))) := fun a w ha _ => by
  simp [execOp, ha.eval hx, ha.eval hy, eqGuard, binOp, Op.intCmp]
theorem p_ge (hx : ev F x = some (.int k p)) (hy : ev F y = some (.int k q)) : Pure ds P n w0 ⟨dst, .binOp .geq tx x y tY, ty, pos, after, guard⟩ F H (.bool (decide (q ≤ p))) := fun a w ha _ => by
  simp [execOp, ha.eval hx, ha.eval hy, eqGuard, binOp, Op.intCmp]
theorem p_not {b : Bool} (hx : ev F x = some (.bool b)) : Pure ds P n w0 ⟨dst, .unOp .not tx x, ty, pos, after, guard⟩ F H (.bool (!b)) := fun a w ha _ => by
  simp [execOp, ha.eval hx, Op.unary]
theorem p_eqBool {b c : Bool} (hx : ev F x = some (.bool b)) (hy : ev F y = some (.bool c)) (hu : P.underlying tx = some .bool) : Pure ds P n w0 ⟨dst, .binOp .eql tx x y tY, ty, pos, after, guard⟩ F H (.bool (b == c)) := fun a w ha _ => by
  have h : (Op.equal tx (.bool b) (.bool c)).run P w = .ok (b == c) w := by
    show ((Go.underlying tx).bind _).run P w = _
    exact (run_bind (P := P) (Go.underlying tx) _ w).trans (by rw [run_underlying hu]; rfl)
  simp [execOp, ha.eval hx, ha.eval hy, eqGuard, binOp, h]

/-! ### Calls -/
/-- The call returns v, and nothing that was there is changed. -/
def Fn0 (P : Program) (f : FuncId) (args : List Value) (Pre : World → Prop) (v : Value) : Prop :=
  ∀ w, Pre w → Calls P f args.toArray w (fun e w' => e = .returned v ∧ Below w.heap.size w w')

/-- The call returns a value with memory of its own: what it is made of (p), where that lies (S). -/
def FnM (P : Program) (f : FuncId) (args : List Value) (Pre : World → Prop) (π : Type) (val : π → Value) (A : π → (Nat → Prop) → World → Prop) : Prop :=
  ∀ w, Pre w → Calls P f args.toArray w (fun e w' => ∃ p S, e = .returned (val p) ∧ Below w.heap.size w w' ∧ (∀ b, S b → w.heap.size ≤ b ∧ b < w'.heap.size) ∧ A p S w')

theorem HeapIs.below {w w' : World} (h : HeapIs w0 H w) (hb : Below w.heap.size w w') : HeapIs w0 H w' :=
  ⟨⟨hb.os.trans h.same.os, hb.tape.trans h.same.tape, hb.output.trans h.same.output⟩, Nat.le_trans h.size hb.size,
    fun e he => ⟨(h.good e he).stable, fun b hb' => Nat.lt_of_lt_of_le ((h.good e he).bound b hb') hb.size, (h.good e he).stable w w' (fun b hb' => hb.block b ((h.good e he).bound b hb')) (h.good e he).here⟩, h.apart⟩

theorem HeapIs.belowNew {w w' : World} (h : HeapIs w0 H w) (hb : Below w.heap.size w w') {S : Nat → Prop} {A : World → Prop} (hS : ∀ b, S b → w.heap.size ≤ b ∧ b < w'.heap.size) (hst : ∀ w1 w2, Agree S w1 w2 → A w1 → A w2) (hA : A w') : HeapIs w0 (⟨S, A⟩ :: H) w' := by
  have h' := h.below hb
  refine ⟨h'.same, h'.size, ?_, List.pairwise_cons.2 ⟨fun e he b hb1 hb2 => ?_, h'.apart⟩⟩
  · intro e he
    rcases List.mem_cons.1 he with rfl | he
    · exact ⟨hst, fun b hb => (hS b hb).2, hA⟩
    · exact h'.good e he
  · have := (h.good e he).bound b hb2
    have := (hS b hb1).1
    omega

theorem run_call {f : FuncId} {fn : Func} {c : Code} {args : Array Operand} {ats : Array TypeId} {vs : List Value} {a : Act} {w : World} (ha : Ok n ds F a) (hv : evs F args.toList = some vs) (hf : P.funcs[f]? = some fn) (hb : fn.body = some c) (hname : (fn.name == "runtime.NumGoroutine") = false) :
    (execOp a.eval ⟨dst, .call { callee := .value (.func f), args := args, argTypes := ats }, ty, pos, after, guard⟩).run P w = .ok (.enter f vs.toArray) w := by
  have h1 : args.map a.eval = vs.toArray := by
    rw [← ha.evals hv]; apply Array.ext'; simp
  have h2 : a.eval (.func f) = .func (.func f) #[] #[] := rfl
  have h3 : (callFunc f vs.toArray).run P w = .ok (.enter f vs.toArray) w := by
    have hname' : fn.name ≠ "runtime.NumGoroutine" := by intro e; rw [e] at hname; simp at hname
    simp [callFunc, program, Sem.run, hf, hb, hname']
  simp [execOp, resolve, h1, h2, Deferred.ofValue, invoke, h3]

/-- A function of the program with a body, by its number. -/
def HasFn (P : Program) (f : FuncId) : Prop := ∃ fn c, P.funcs[f]? = some fn ∧ fn.body = some c ∧ (fn.name == "runtime.NumGoroutine") = false

theorem o_call0 {f : FuncId} {args : Array Operand} {ats : Array TypeId} {vs : List Value} {Pre : World → Prop} {v : Value} (hv : evs F args.toList = some vs) (hf : Fn0 P f vs Pre v) (hP : HasFn P f) (hpre : ∀ w, HeapIs w0 H w → Pre w) (hn : Nat.blt d n = true)
    (h : SO r ds P n w0 ops Q rest ((d, v) :: F) H) : SO r ds P n w0 ops Q (⟨some d, .call { callee := .value (.func f), args := args, argTypes := ats }, ty, pos, after, none⟩ :: rest) F H := fun a w ha hw =>
  wpL_plain rfl (fun _ h => by cases h) fun K hK => by
    obtain ⟨fn, c, h1, h2, h3⟩ := hP
    unfold Oper.wp
    rw [run_call ha hv h1 h2 h3]
    simp only [Oper.upon]
    refine (hf w (hpre w hw)).mono ?_
    rintro e w' ⟨rfl, hb⟩
    exact hK _ _ (h _ _ (ha.put hn _) (hw.below hb))

theorem o_callM {f : FuncId} {args : Array Operand} {ats : Array TypeId} {vs : List Value} {Pre : World → Prop} {π : Type} {val : π → Value} {A : π → (Nat → Prop) → World → Prop} (hv : evs F args.toList = some vs) (hf : FnM P f vs Pre π val A) (hP : HasFn P f) (hpre : ∀ w, HeapIs w0 H w → Pre w) (hn : Nat.blt d n = true)
    (hst : ∀ p S w1 w2, Agree S w1 w2 → A p S w1 → A p S w2) (h : ∀ p S, SO r ds P n w0 ops Q rest ((d, val p) :: F) (⟨S, A p S⟩ :: H)) :
    SO r ds P n w0 ops Q (⟨some d, .call { callee := .value (.func f), args := args, argTypes := ats }, ty, pos, after, none⟩ :: rest) F H := fun a w ha hw =>
  wpL_plain rfl (fun _ h => by cases h) fun K hK => by
    obtain ⟨fn, c, h1, h2, h3⟩ := hP
    unfold Oper.wp
    rw [run_call ha hv h1 h2 h3]
    simp only [Oper.upon]
    refine (hf w (hpre w hw)).mono ?_
    rintro e w' ⟨p, S, rfl, hb, hS, hR⟩
    exact hK _ _ (h p S _ _ (ha.put hn _) (hw.belowNew hb hS (hst p S) hR))

/-- A call behind a guard that says yes. -/
theorem o_call0_guarded {f : FuncId} {args : Array Operand} {ats : Array TypeId} {vs : List Value} {Pre : World → Prop} {v : Value} {g : Nat} {want : Bool} (hv : evs F args.toList = some vs) (hf : Fn0 P f vs Pre v) (hP : HasFn P f) (hpre : ∀ w, HeapIs w0 H w → Pre w) (dg : Nat) (hdg : ((ops[g]?).bind (·.dst)) = some dg)
    (hb : lk F dg = some (.bool want)) (hn : Nat.blt d n = true)
    (h : SO r ds P n w0 ops Q rest ((d, v) :: F) H) : SO r ds P n w0 ops Q (⟨some d, .call { callee := .value (.func f), args := args, argTypes := ats }, ty, pos, after, some (g, want)⟩ :: rest) F H := fun a w ha hw =>
  wpL_step (fun _ h => by cases h) fun K hK => by
    have hw' : Region.wanted (⟨some d, .call { callee := .value (.func f), args := args, argTypes := ats }, ty, pos, after, some (g, want)⟩ : Oper) (yielded ops a.tmps) = true := by
      simp [Region.wanted, yielded, hdg, ha.knows dg _ hb]
    rw [if_pos hw']
    obtain ⟨fn, c, h1, h2, h3⟩ := hP
    unfold Oper.wp
    rw [run_call ha hv h1 h2 h3]
    simp only [Oper.upon]
    refine (hf w (hpre w hw)).mono ?_
    rintro e w' ⟨rfl, hb⟩
    exact hK _ _ (h _ _ (ha.put hn _) (hw.below hb))

/-! ### What was there when the call began -/
def base (w0 : World) : Ent := ⟨fun b => b < w0.heap.size, fun w => ∀ b, b < w0.heap.size → w.heap[b]? = w0.heap[b]?⟩

theorem HeapIs.begin (w0 : World) : HeapIs w0 [base w0] w0 :=
  ⟨⟨rfl, rfl, rfl⟩, Nat.le_refl _, fun e he => by
    rcases List.mem_singleton.1 he with rfl
    exact ⟨fun w1 w2 ha hA b hb => (ha b hb).trans (hA b hb), fun b hb => hb, fun b _ => rfl⟩, List.pairwise_singleton _ _⟩

theorem HeapIs.toBelow {w : World} (h : HeapIs w0 H w) {i : Nat} (hi : H[i]? = some (base w0)) : Below w0.heap.size w0 w :=
  ⟨h.same.os, h.same.tape, h.same.output, h.size, fun k hk => (h.at hi).here k hk⟩

/-! ### Loops -/
theorem wpC_loop {body : Code} (I : Nat → Act → World → Prop) {a : Act} {w : World} (m0 : Nat) (h0 : I m0 a w) (round : ∀ m a w, I m a w → wpC r P body (Exit.then (fun a' w' => ∃ m', m' < m ∧ I m' a' w') Q) a w) : wpC r P (.loop body) Q a w := by
  cases r with
  | none =>
    intro b k cs
    have key : ∀ m a w, I m a w → ∃ e a' w', Q e a' w' ∧ Arrives P (lone (b.at a (.code body :: .inLoop body :: k)) cs w) b k cs e a' w' := by
      intro m
      induction m using Nat.strongRecOn with
      | _ m ih =>
        intro a w h1
        obtain ⟨e, a₁, w₁, hq, harr⟩ := round m a w h1 b (.inLoop body :: k) cs
        cases e with
        | normal =>
          obtain ⟨m', hlt, h1'⟩ := hq
          obtain ⟨e₂, a₂, w₂, hq₂, harr₂⟩ := ih m' hlt a₁ w₁ h1'
          exact ⟨e₂, a₂, w₂, hq₂, .of_steps (Steps.trans harr (.one step_inLoop)) harr₂⟩
        | exit id => exact ⟨_, a₁, w₁, hq, .pass (x := .inLoop body) rfl (fun _ _ => .inl (by simp)) harr⟩
        | goto l => exact ⟨_, a₁, w₁, hq, .pass (x := .inLoop body) rfl (fun _ _ => .inl (by simp)) harr⟩
        | ret => exact ⟨_, a₁, w₁, hq, .pass (x := .inLoop body) rfl (fun _ _ => .inl (by simp)) harr⟩
        | panic ch => exact ⟨_, a₁, w₁, hq, .pass (x := .inLoop body) rfl (fun _ _ => .inl (by simp)) harr⟩
        | outgrown => exact ⟨_, a₁, w₁, hq, .pass (x := .inLoop body) rfl (fun _ _ => .inl (by simp)) harr⟩
    obtain ⟨e, a', w', hq, harr⟩ := key m0 a w h0
    exact ⟨e, a', w', hq, .of_steps (.one step_loop) harr⟩
  | some l =>
    intro b k cs hro hb hr
    have key : ∀ m a w, I m a w → ∃ e a' w', Q e a' w' ∧ ArrivesIn (Machine.fenced P (fenceOf l)) P (lone (b.atR a (.code body :: .inLoop body :: k)) cs w) b k cs e a' w' := by
      intro m
      induction m using Nat.strongRecOn with
      | _ m ih =>
        intro a w h1
        obtain ⟨e, a₁, w₁, hq, harr⟩ := round m a w h1 b (.inLoop body :: k) cs hro hb hr
        cases e with
        | normal =>
          obtain ⟨m', hlt, h1'⟩ := hq
          obtain ⟨e₂, a₂, w₂, hq₂, harr₂⟩ := ih m' hlt a₁ w₁ h1'
          exact ⟨e₂, a₂, w₂, hq₂, .of_steps (StepsIn.trans harr (.one (fenced_calm hb hr rfl) stepR_inLoop)) harr₂⟩
        | exit id => exact ⟨_, a₁, w₁, hq, .pass (x := .inLoop body) rfl (fun _ _ => .inl (by simp)) harr⟩
        | goto l => exact ⟨_, a₁, w₁, hq, .pass (x := .inLoop body) rfl (fun _ _ => .inl (by simp)) harr⟩
        | ret => exact ⟨_, a₁, w₁, hq, .pass (x := .inLoop body) rfl (fun _ _ => .inl (by simp)) harr⟩
        | panic ch => exact ⟨_, a₁, w₁, hq, .pass (x := .inLoop body) rfl (fun _ _ => .inl (by simp)) harr⟩
        | outgrown => exact ⟨_, a₁, w₁, hq, .pass (x := .inLoop body) rfl (fun _ _ => .inl (by simp)) harr⟩
    obtain ⟨e, a', w', hq, harr⟩ := key m0 a w h0
    exact ⟨e, a', w', hq, .of_steps (.one (fenced_calm hb hr rfl) stepR_loop) harr⟩
theorem wpC_mono {c : Code} {Q' : Exit → Act → World → Prop} {a : Act} {w : World} (hq : ∀ e a w, Q e a w → Q' e a w) (h : wpC r P c Q a w) : wpC r P c Q' a w := by
  cases r with
  | none => exact Code.wp_mono hq h
  | some l => exact Code.wpIn_mono hq h
theorem c_loop {body : Code} {St : Type} (FI : St → List (Nat × Value)) (HI : St → List Ent) (I : St → Prop) (μ : St → Nat) (s0 : St) (hI : I s0) (hF : Sub F (FI s0)) (hH : ∀ w, HeapIs w0 H w → HeapIs w0 (HI s0) w)
    (round : ∀ s, I s → ∀ K : Act → World → Prop, (∀ s' a w, I s' → μ s' < μ s → Ok n ds (FI s') a → HeapIs w0 (HI s') w → K a w) → SC r ds P n w0 (Exit.then K Q) body (FI s) (HI s)) : SC r ds P n w0 Q (.loop body) F H := by
  intro a w ha hw
  refine wpC_loop (fun m a w => ∃ s, I s ∧ Ok n ds (FI s) a ∧ HeapIs w0 (HI s) w ∧ μ s = m) (μ s0) ⟨s0, hI, ha.sub hF, hH w hw, rfl⟩ ?_
  rintro m a w ⟨s, h1, h2, h3, rfl⟩
  exact round s h1 (fun a' w' => ∃ m', m' < μ s ∧ ∃ s', I s' ∧ Ok n ds (FI s') a' ∧ HeapIs w0 (HI s') w' ∧ μ s' = m') (fun s' a w g1 g2 g3 g4 => ⟨_, g2, s', g1, g3, g4, rfl⟩) a w h2 h3

theorem q_round {St : Type} {FI : St → List (Nat × Value)} {HI : St → List Ent} {I : St → Prop} {μ : St → Nat} {m : Nat} {K : Act → World → Prop} (hK : ∀ s' a w, I s' → μ s' < m → Ok n ds (FI s') a → HeapIs w0 (HI s') w → K a w) (s' : St) (hI : I s') (hm : μ s' < m) (hF : Sub F (FI s')) (hH : ∀ w, HeapIs w0 H w → HeapIs w0 (HI s') w) :
    SQ ds n w0 (Exit.then K Q) .normal F H :=
  fun _ w ha hw => hK s' _ w hI hm (ha.sub hF) (hH w hw)

/-! ### A region that draws its order and leaves the heap alone -/
def SW (ds : List Deferred) (P : Program) (n : Nat) (w0 : World) (ops : Array Oper) (Q : Exit → Act → World → Prop) (l : List Oper) (F : List (Nat × Value)) (H : List Ent) : Prop :=
  ∀ a, Ok n ds F a → wpQuiet P ops (HeapIs w0 H) (fun a' => ∀ w', HeapIs w0 H w' → Q .normal a' w') l a

theorem c_draw {id : Nat} {l : List Oper} (hm : P.follows .mixedOrders = true) (hB : Region.lexB .any l.toArray = true) (h : SW ds P n w0 l.toArray Q l F H) : SC none ds P n w0 Q (.region id l.toArray true) F H := fun a w ha hw =>
  wp_region_quiet (C := HeapIs w0 H) hm hB (hw.drew _) (by simpa using h a ha)

theorem w_nil (h : SQ ds n w0 Q .normal F H) : SW ds P n w0 ops Q [] F H := fun a ha => wpQuiet_nil fun w' hw' => h a w' ha hw'

theorem w_pure {o : Oper} {v : Value} (hp : Pure ds P n w0 o F H v) (hg : o.guard = none) (hd : o.dst = some d) (hn : Nat.blt d n = true)
    (h : SW ds P n w0 ops Q rest ((d, v) :: F) H) : SW ds P n w0 ops Q (o :: rest) F H := fun a ha =>
  wpQuiet_step fun K hK => by
    rw [if_pos (by simp [Region.wanted, hg])]
    refine ⟨v, fun w hw => ?_, ?_⟩
    · unfold Oper.quietAt; rw [hp a w ha hw]; exact ⟨rfl, rfl⟩
    · rw [hd]; exact hK _ (h _ (ha.put hn v))

theorem w_call0 {f : FuncId} {args : Array Operand} {ats : Array TypeId} {vs : List Value} {Pre : World → Prop} {v : Value} (hv : evs F args.toList = some vs) (hf : Fn0 P f vs Pre v) (hP : HasFn P f) (hpre : ∀ w, HeapIs w0 H w → Pre w) (hn : Nat.blt d n = true)
    (h : SW ds P n w0 ops Q rest ((d, v) :: F) H) : SW ds P n w0 ops Q (⟨some d, .call { callee := .value (.func f), args := args, argTypes := ats }, ty, pos, after, none⟩ :: rest) F H := fun a ha =>
  wpQuiet_step fun K hK => by
    obtain ⟨fn, c, h1, h2, h3⟩ := hP
    rw [if_pos (by simp [Region.wanted])]
    refine ⟨v, fun w hw => ?_, hK _ (h _ (ha.put hn v))⟩
    unfold Oper.quietAt
    rw [run_call ha hv h1 h2 h3]
    exact ⟨rfl, (hf w (hpre w hw)).mono fun e w' ⟨he, hb⟩ => ⟨he, hw.below hb⟩⟩

theorem w_guard_no {o : Oper} {g : Nat} {want : Bool} {u : Value} (hg : o.guard = some (g, want)) (dg : Nat) (hdg : ((ops[g]?).bind (·.dst)) = some dg) (hb : lk F dg = some u) (hne : (match u with | .bool b => b == want | _ => false) = false)
    (hd : o.dst = some d) (hn : Nat.blt d n = true) (h : SW ds P n w0 ops Q rest ((d, undef) :: F) H) : SW ds P n w0 ops Q (o :: rest) F H := fun a ha =>
  wpQuiet_step fun K hK => by
    have hw' : Region.wanted o (yielded ops a.tmps) = false := by
      simp only [Region.wanted, hg, yielded, hdg, Option.bind_some, ha.knows dg _ hb]
      cases u <;> simp_all
    rw [if_neg (by simp [hw']), hd]
    exact hK _ (h _ (ha.put_skip hn))

theorem w_sub {l : List Oper} (hs : Sub F F') (h : SW ds P n w0 ops Q l F' H) : SW ds P n w0 ops Q l F H := fun a ha => h a (ha.sub hs)
theorem w_and {l : List Oper} {s p : Nat} {b : Bool} (m : Nat) (y : Bool) (e1 : b = true → SW ds P n w0 ops Q (l.drop m) ((p, .bool y) :: F) H → SW ds P n w0 ops Q l ((s, .bool true) :: F) H)
    (e0 : b = false → SW ds P n w0 ops Q (l.drop m) ((p, .bool false) :: F) H → SW ds P n w0 ops Q l ((s, .bool false) :: F) H) (k : SW ds P n w0 ops Q (l.drop m) ((p, .bool (b && y)) :: F) H) : SW ds P n w0 ops Q l ((s, .bool b) :: F) H := by
  cases b
  · exact e0 rfl k
  · exact e1 rfl k
theorem w_or {l : List Oper} {s p : Nat} {b : Bool} (m : Nat) (y : Bool) (e1 : b = false → SW ds P n w0 ops Q (l.drop m) ((p, .bool y) :: F) H → SW ds P n w0 ops Q l ((s, .bool false) :: F) H)
    (e0 : b = true → SW ds P n w0 ops Q (l.drop m) ((p, .bool true) :: F) H → SW ds P n w0 ops Q l ((s, .bool true) :: F) H) (k : SW ds P n w0 ops Q (l.drop m) ((p, .bool (b || y)) :: F) H) : SW ds P n w0 ops Q l ((s, .bool b) :: F) H := by
  cases b
  · exact e1 rfl k
  · exact e0 rfl k

theorem w_pure_guarded {o : Oper} {g : Nat} {want : Bool} {v : Value} (hp : Pure ds P n w0 o F H v) (hg : o.guard = some (g, want)) (dg : Nat) (hdg : ((ops[g]?).bind (·.dst)) = some dg)
    (hb : lk F dg = some (.bool want)) (hd : o.dst = some d) (hn : Nat.blt d n = true) (h : SW ds P n w0 ops Q rest ((d, v) :: F) H) : SW ds P n w0 ops Q (o :: rest) F H := fun a ha =>
  wpQuiet_step fun K hK => by
    have hy : yielded ops a.tmps g = some want := by simp [yielded, hdg, ha.knows dg _ hb]
    have hw' : Region.wanted o (yielded ops a.tmps) = true := by simp only [Region.wanted, hg, hy]; simp
    rw [if_pos hw']
    refine ⟨v, fun w hw => ?_, ?_⟩
    · unfold Oper.quietAt; rw [hp a w ha hw]; exact ⟨rfl, rfl⟩
    · rw [hd]; exact hK _ (h _ (ha.put hn v))
end
end Go.Sx
