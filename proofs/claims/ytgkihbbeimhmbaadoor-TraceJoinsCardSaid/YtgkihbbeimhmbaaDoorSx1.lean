/- The core of a small symbolic execution over the kit's weakest preconditions: frames as association lists, the heap as a list of disjoint entries. -/
import Derived.WalkKit
import Derived.RangeFuncNested
import Derived.RangeFuncLeaves
import Derived.Deep.QuietTactic
import Derived.BigQuiet
namespace Go.Sx
open Go.RowKit

/-! ### Frames -/
def Fr := List (Nat × Value)

def lk : List (Nat × Value) → Nat → Option Value
  | [], _ => none
  | (s, v) :: F, t => bif Nat.beq s t then some v else lk F t

def ev (F : List (Nat × Value)) : Operand → Option Value
  | .tmp t => lk F t
  | .const v => some v
  | .global g => some (.pointer (some ⟨g, 0, none⟩))
  | .func f => some (.func (.func f) #[] #[])

def evs (F : List (Nat × Value)) : List Operand → Option (List Value)
  | [] => some []
  | x :: l => match ev F x, evs F l with
    | some v, some vs => some (v :: vs)
    | _, _ => none

/-- What is known of a frame of n slots. -/
structure Ok (n : Nat) (ds : List Deferred) (F : List (Nat × Value)) (a : Act) : Prop where
  defers : a.defers = ds
  size : a.tmps.size = n
  knows : ∀ t v, lk F t = some v → a.tmps[t]? = some v

theorem Ok.eval {n : Nat} {ds : List Deferred} {F : List (Nat × Value)} {a : Act} (h : Ok n ds F a) {x : Operand} {v : Value} (hx : ev F x = some v) : a.eval x = v := by
  cases x with
  | tmp t => have := h.knows t v hx; simp [Act.eval, Array.getD_eq_getD_getElem?, this]
  | const u => simp [ev] at hx; subst hx; rfl
  | global g => simp [ev] at hx; subst hx; rfl
  | func f => simp [ev] at hx; subst hx; rfl

theorem Ok.evals {n : Nat} {ds : List Deferred} {F : List (Nat × Value)} {a : Act} (h : Ok n ds F a) : ∀ {l : List Operand} {vs : List Value}, evs F l = some vs → l.map a.eval = vs
  | [], _, e => by simp [evs] at e; subst e; rfl
  | x :: l, vs, e => by
    simp only [evs] at e
    split at e
    · rename_i v vs' h1 h2
      simp only [Option.some.injEq] at e
      subst e
      simp [h.eval h1, h.evals h2]
    · simp at e

theorem lk_cons_ne {F : List (Nat × Value)} {s t : Nat} {v : Value} (h : s ≠ t) : lk ((s, v) :: F) t = lk F t := by
  have : Nat.beq s t = false := by
    cases hb : Nat.beq s t with
    | false => rfl
    | true => exact absurd (Nat.eq_of_beq_eq_true hb) h
  simp [lk, this]

theorem lk_cons_eq {F : List (Nat × Value)} {s : Nat} {v : Value} : lk ((s, v) :: F) s = some v := by
  simp [lk]

theorem Ok.put {n : Nat} {ds : List Deferred} {F : List (Nat × Value)} {a : Act} (h : Ok n ds F a) {d : Nat} (hd : Nat.blt d n = true) (v : Value) : Ok n ds ((d, v) :: F) (a.put (some d) v) where
  defers := h.defers
  size := by simp [Act.put, h.size]
  knows := by
    intro t u ht
    have hdn : d < n := by simpa [Nat.blt_eq] using hd
    by_cases e : d = t
    · subst e
      rw [lk_cons_eq] at ht
      simp only [Option.some.injEq] at ht
      subst ht
      simp [Act.put, h.size, hdn]
    · rw [lk_cons_ne e] at ht
      have := h.knows t u ht
      simp only [Act.put]
      rw [Array.getElem?_setIfInBounds_ne (by omega)]
      exact this

theorem Ok.put_none {n : Nat} {ds : List Deferred} {F : List (Nat × Value)} {a : Act} (h : Ok n ds F a) (v : Value) : Ok n ds F (a.put none v) := h

/-- Less is known. -/
def Sub (F F' : List (Nat × Value)) : Prop := ∀ t v, lk F' t = some v → lk F t = some v

theorem Ok.sub {n : Nat} {ds : List Deferred} {F F' : List (Nat × Value)} {a : Act} (h : Ok n ds F a) (hs : Sub F F') : Ok n ds F' a :=
  ⟨h.defers, h.size, fun t v ht => h.knows t v (hs t v ht)⟩

theorem Sub.nil (F : List (Nat × Value)) : Sub F [] := fun t v h => by simp [lk] at h
theorem Sub.cons {F F' : List (Nat × Value)} {s : Nat} {v : Value} (h1 : lk F s = some v) (h : Sub F F') : Sub F ((s, v) :: F') := by
  intro t u ht
  by_cases e : s = t
  · subst e; rw [lk_cons_eq] at ht; simp only [Option.some.injEq] at ht; subst ht; exact h1
  · rw [lk_cons_ne e] at ht; exact h t u ht
theorem Sub.refl (F : List (Nat × Value)) : Sub F F := fun _ _ h => h

/-! ### The heap -/

/-- w' is as w on the blocks of S. -/
def Agree (S : Nat → Prop) (w w' : World) : Prop := ∀ b, S b → w'.heap[b]? = w.heap[b]?

structure Ent where
  S : Nat → Prop
  A : World → Prop

structure Ent.Good (e : Ent) (w : World) : Prop where
  stable : ∀ w1 w2, Agree e.S w1 w2 → e.A w1 → e.A w2
  bound : ∀ b, e.S b → b < w.heap.size
  here : e.A w

def Disj (S T : Nat → Prop) : Prop := ∀ b, S b → T b → False

/-- The streams are as they were at w0. -/
structure Same (w0 w : World) : Prop where
  os : w.os = w0.os
  tape : w.tape = w0.tape
  output : w.output = w0.output

structure HeapIs (w0 : World) (H : List Ent) (w : World) : Prop where
  same : Same w0 w
  size : w0.heap.size ≤ w.heap.size
  good : ∀ e ∈ H, e.Good w
  apart : H.Pairwise fun e f => Disj e.S f.S

theorem HeapIs.drew {w0 : World} {H : List Ent} {w : World} (h : HeapIs w0 H w) (n : Nat) : HeapIs w0 H { w with drawn := n } :=
  ⟨⟨h.same.os, h.same.tape, h.same.output⟩, h.size, fun e he => ⟨(h.good e he).stable, (h.good e he).bound, (h.good e he).stable w _ (fun _ _ => rfl) (h.good e he).here⟩, h.apart⟩

/-! ### In a round of a range over a function, in a function that calls yield, or outside of both -/
/-- 0: a plain frame that may call yield; l + 1: a round of loop l. -/
def fenceOf : Nat → Fence
  | 0 => Fence.wide
  | l + 1 => Fence.wide.inRound l
theorem fenceOf_fn (l : Nat) (f : FuncId) : (fenceOf l).fn f := by cases l <;> trivial
theorem fenceOf_depth (l : Nat) : (fenceOf l).depth = none := by cases l <;> rfl
theorem fenceOf_room (l m : Nat) : (fenceOf l).room m := by cases l <;> exact room_wide m
theorem fenceOf_sem (l : Nat) (ρ : Operand → Value) (o : Oper) (hd : ∀ c, o.op ≠ .defer c) : o.semAt (fenceOf l).round ρ = execOp ρ o := by
  cases l with
  | zero => exact Oper.semAt_none ρ o
  | succ l => exact Oper.semAt_some l ρ o hd
theorem fenceOf_calls {l k : Nat} {P : Program} {f : FuncId} {args : Array Value} {w : World} {R : Ending → World → Prop} (h : Calls P f args w R) : CallsIn (fenceOf l) k P f args w R := by
  cases l with
  | zero => exact callsIn_wide.2 h
  | succ l => exact CallsIn.inRound l (callsIn_wide.2 h)
theorem fenceOf_steps {l : Nat} {P : Program} {m m' : Machine} (h : Steps P m m') : StepsIn (Machine.fenced P (fenceOf l)) P m m' := by
  cases l with
  | zero => exact stepsIn_wide.2 h
  | succ l => exact stepsIn_wide.2 h
def wpC (r : Option Nat) (P : Program) (c : Code) (Q : Exit → Act → World → Prop) (a : Act) (w : World) : Prop :=
  match r with
  | none => c.wp P Q a w
  | some l => c.wpIn (fenceOf l) 0 P Q a w
def wpL (r : Option Nat) (P : Program) (ops : Array Oper) (Q : Exit → Act → World → Prop) (L : List Oper) (a : Act) (w : World) : Prop :=
  match r with
  | none => wpList P ops Q L a w
  | some l => wpListIn (fenceOf l) 0 P ops Q L a w
theorem op_in {l : Nat} {P : Program} {o : Oper} {a : Act} {w : World} {K : Act → World → Prop} {Q : Exit → Act → World → Prop} (hd : ∀ c, o.op ≠ .defer c) (h : o.wp P a w K Q) : o.wpIn (fenceOf l) 0 P a w K Q := by
  refine ⟨fun _ _ => fenceOf_fn _ _, ?_⟩
  rw [fenceOf_sem _ _ _ hd]
  unfold Oper.wp at h
  revert h
  generalize (execOp a.eval o).run P w = res
  intro h
  cases res with
  | ok x w' =>
    cases x with
    | value v => exact h
    | skip => exact h
    | defer d => exact h
    | enter f args => exact ⟨fun hh => by simp [fenceOf_depth] at hh, fenceOf_calls h⟩
    | row row args => exact ⟨fun hh => by simp [fenceOf_depth] at hh, fun c cs _ => let ⟨v, w', q, s⟩ := h c cs; ⟨v, w', q, fenceOf_steps s⟩⟩
    | round _ _ _ _ _ => exact h.elim
    | _ => exact h.elim
  | halt x w' => 
    cases x with
    | panic v => exact h
    | _ => exact h.elim
section
variable {P : Program} {r : Option Nat} {ops : Array Oper} {Q : Exit → Act → World → Prop} {a : Act} {w : World} {rest : List Oper} {o : Oper}
theorem wpL_step (hd : ∀ c, o.op ≠ .defer c) (h : ∀ K : Act → World → Prop, (∀ a w, wpL r P ops Q rest a w → K a w) → if Region.wanted o (yielded ops a.tmps) then o.wp P a w K Q else K (a.put o.dst undef) w) : wpL r P ops Q (o :: rest) a w := by
  cases r with
  | none => exact wpList_step h
  | some l =>
    refine wpListIn_step fun K hK => ?_
    have := h K hK
    split at this
    · rename_i hw; rw [if_pos hw]; exact op_in hd this
    · rename_i hw; rw [if_neg hw]; exact ⟨fun _ _ => fenceOf_fn _ _, this⟩
theorem wpL_plain (hg : o.guard = none) (hd : ∀ c, o.op ≠ .defer c) (h : ∀ K : Act → World → Prop, (∀ a w, wpL r P ops Q rest a w → K a w) → o.wp P a w K Q) : wpL r P ops Q (o :: rest) a w :=
  wpL_step hd fun K hK => by simp only [Region.wanted, hg, if_true]; exact h K hK
/-- an operation that is passed over -/
theorem wpL_skip (hw : Region.wanted o (yielded ops a.tmps) = false) (h : wpL r P ops Q rest (a.put o.dst undef) w) : wpL r P ops Q (o :: rest) a w := by
  cases r with
  | none => exact wpList_step fun K hK => by rw [if_neg (by simp [hw])]; exact hK _ _ h
  | some l => exact wpListIn_step fun K hK => by rw [if_neg (by simp [hw])]; exact ⟨fun _ _ => fenceOf_fn _ _, hK _ _ h⟩
theorem value_nd {v : Value} (h : (execOp a.eval o).run P w = .ok (.value v) w) : ∀ c, o.op ≠ .defer c := by
  intro c hc
  unfold execOp at h
  rw [hc] at h
  simp only [Sem.run_bind] at h
  revert h
  generalize (resolve a.eval c o.type).run P w = res
  intro h
  cases res <;> simp [Result.andThen] at h
end

/-! ### Judgements -/
section
variable (r : Option Nat) (ds : List Deferred) (P : Program) (n : Nat) (w0 : World)

/-- A piece of code, from what is known of frame and heap. -/
def SC (Q : Exit → Act → World → Prop) (c : Code) (F : List (Nat × Value)) (H : List Ent) : Prop :=
  ∀ a w, Ok n ds F a → HeapIs w0 H w → wpC r P c Q a w

/-- A way out. -/
def SQ (Q : Exit → Act → World → Prop) (e : Exit) (F : List (Nat × Value)) (H : List Ent) : Prop :=
  ∀ a w, Ok n ds F a → HeapIs w0 H w → Q e a w

/-- A list of operations, from what is known of frame and heap. -/
def SO (ops : Array Oper) (Q : Exit → Act → World → Prop) (l : List Oper) (F : List (Nat × Value)) (H : List Ent) : Prop :=
  ∀ a w, Ok n ds F a → HeapIs w0 H w → wpL r P ops Q l a w
end

section
variable {P : Program} {n : Nat} {w0 : World} {r : Option Nat} {ds : List Deferred} {Q : Exit → Act → World → Prop} {F F' : List (Nat × Value)} {H : List Ent} {ops : Array Oper}

theorem c_skip (h : SQ ds n w0 Q .normal F H) : SC r ds P n w0 Q .skip F H := fun a w ha hw => by cases r; exact wp_skip (h a w ha hw); exact wpIn_skip (h a w ha hw)
theorem c_ret (h : SQ ds n w0 Q .ret F H) : SC r ds P n w0 Q .ret F H := fun a w ha hw => by cases r; exact wp_ret (h a w ha hw); exact wpIn_ret (h a w ha hw)
theorem c_exit {id : Nat} (h : SQ ds n w0 Q (.exit id) F H) : SC r ds P n w0 Q (.exit id) F H := fun a w ha hw => by cases r; exact wp_exit (h a w ha hw); exact wpIn_exit (h a w ha hw)
theorem c_seq {x y : Code} (h : SC r ds P n w0 (Exit.then (wpC r P y Q) Q) x F H) : SC r ds P n w0 Q (.seq x y) F H := fun a w ha hw => by cases r; exact wp_seq (h a w ha hw); exact wpIn_seq (h a w ha hw)
theorem c_block {id : Nat} {c : Code} (h : SC r ds P n w0 (Exit.inBlock id Q) c F H) : SC r ds P n w0 Q (.block id c) F H := fun a w ha hw => by cases r; exact wp_block (h a w ha hw); exact wpIn_block (h a w ha hw)
theorem c_region {id : Nat} {l : List Oper} (h : SO r ds P n w0 l.toArray Q l F H) : SC r ds P n w0 Q (.region id l.toArray false) F H := fun a w ha hw => by cases r; exact wp_region_lit (h a w ha hw); exact wpIn_region_lit (h a w ha hw)
theorem c_cond {c : Operand} {x y : Code} {b : Bool} (hc : ev F c = some (.bool b)) (h1 : b = true → SC r ds P n w0 Q x F H) (h2 : b = false → SC r ds P n w0 Q y F H) : SC r ds P n w0 Q (.cond c x y) F H :=
  fun a w ha hw => by cases r; exact wp_cond_split (ha.eval hc) (fun e => h1 e a w ha hw) (fun e => h2 e a w ha hw); exact wpIn_cond_split (ha.eval hc) (fun e => h1 e a w ha hw) (fun e => h2 e a w ha hw)
theorem c_true {c : Operand} {x y : Code} (hc : ev F c = some (.bool true)) (h1 : SC r ds P n w0 Q x F H) : SC r ds P n w0 Q (.cond c x y) F H :=
  fun a w ha hw => by cases r; exact wp_cond_true (ha.eval hc) (h1 a w ha hw); exact wpIn_cond_true (ha.eval hc) (h1 a w ha hw)
theorem c_false {c : Operand} {x y : Code} (hc : ev F c = some (.bool false)) (h1 : SC r ds P n w0 Q y F H) : SC r ds P n w0 Q (.cond c x y) F H :=
  fun a w ha hw => by cases r; exact wp_cond_false (ha.eval hc) (h1 a w ha hw); exact wpIn_cond_false (ha.eval hc) (h1 a w ha hw)

theorem c_sub {c : Code} (hs : Sub F F') (h : SC r ds P n w0 Q c F' H) : SC r ds P n w0 Q c F H := fun a w ha hw => h a w (ha.sub hs) hw

/-- The ways out through 'then' and 'inBlock'. -/
theorem q_then {y : Code} (h : SC r ds P n w0 Q y F H) : SQ ds n w0 (Exit.then (wpC r P y Q) Q) .normal F H := h
theorem q_then_ret {K : Act → World → Prop} (h : SQ ds n w0 Q .ret F H) : SQ ds n w0 (Exit.then K Q) .ret F H := h
theorem q_then_exit {K : Act → World → Prop} {id : Nat} (h : SQ ds n w0 Q (.exit id) F H) : SQ ds n w0 (Exit.then K Q) (.exit id) F H := h
theorem q_block_normal {id : Nat} (h : SQ ds n w0 Q .normal F H) : SQ ds n w0 (Exit.inBlock id Q) .normal F H := h
theorem q_block_ret {id : Nat} (h : SQ ds n w0 Q .ret F H) : SQ ds n w0 (Exit.inBlock id Q) .ret F H := h
theorem q_block_exit {id : Nat} (h : SQ ds n w0 Q .normal F H) : SQ ds n w0 (Exit.inBlock id Q) (.exit id) F H := fun a w ha hw => by
  simp only [Exit.inBlock, if_true]; exact h a w ha hw
theorem q_block_pass {id id' : Nat} (hn : Nat.beq id' id = false) (h : SQ ds n w0 Q (.exit id') F H) : SQ ds n w0 (Exit.inBlock id Q) (.exit id') F H := fun a w ha hw => by
  have : id' ≠ id := by intro e; subst e; simp at hn
  simp only [Exit.inBlock, if_neg this]; exact h a w ha hw

theorem o_nil (h : SQ ds n w0 Q .normal F H) : SO r ds P n w0 ops Q [] F H := fun a w ha hw => by cases r; exact h a w ha hw; exact h a w ha hw
theorem o_sub {l : List Oper} (hs : Sub F F') (h : SO r ds P n w0 ops Q l F' H) : SO r ds P n w0 ops Q l F H := fun a w ha hw => h a w (ha.sub hs) hw

/-- An operation that leaves the heap alone and gives v. -/
def Pure (ds : List Deferred) (P : Program) (n : Nat) (w0 : World) (o : Oper) (F : List (Nat × Value)) (H : List Ent) (v : Value) : Prop :=
  ∀ a w, Ok n ds F a → HeapIs w0 H w → (execOp a.eval o).run P w = .ok (.value v) w

theorem o_pure {o : Oper} {d : Nat} {v : Value} {rest : List Oper} (hp : Pure ds P n w0 o F H v) (hg : o.guard = none) (hd : o.dst = some d) (hn : Nat.blt d n = true)
    (h : SO r ds P n w0 ops Q rest ((d, v) :: F) H) : SO r ds P n w0 ops Q (o :: rest) F H := fun a w ha hw =>
  wpL_plain hg (value_nd (hp a w ha hw)) fun K hK => by
    unfold Oper.wp
    rw [hp a w ha hw]
    simp only [Oper.upon, hd]
    exact hK _ _ (h _ w (ha.put hn v) hw)

theorem Sub.skip {F F' : List (Nat × Value)} {s : Nat} {v : Value} (hs : lk F' s = none) (h : Sub F F') : Sub ((s, v) :: F) F' := by
  intro t u ht
  by_cases e : s = t
  · subst e; rw [hs] at ht; cases ht
  · rw [lk_cons_ne e]; exact h t u ht

theorem Ok.put_skip {d : Nat} {a : Act} (ha : Ok n ds F a) (hn : Nat.blt d n = true) : Ok n ds ((d, undef) :: F) (a.put (some d) undef) := ha.put hn undef

/-- A guarded operation whose guard says no (or was itself passed over). -/
theorem o_guard_no {o : Oper} {d g : Nat} {want : Bool} {u : Value} {rest : List Oper} (hg : o.guard = some (g, want)) (dg : Nat) (hdg : ((ops[g]?).bind (·.dst)) = some dg) (hb : lk F dg = some u) (hne : (match u with | .bool b => b == want | _ => false) = false)
    (hd : o.dst = some d) (hn : Nat.blt d n = true) (h : SO r ds P n w0 ops Q rest ((d, undef) :: F) H) : SO r ds P n w0 ops Q (o :: rest) F H := fun a w ha hw => by
  have hw' : Region.wanted o (yielded ops a.tmps) = false := by
    simp only [Region.wanted, hg, yielded, hdg, Option.bind_some, ha.knows dg _ hb]
    cases u <;> simp_all
  exact wpL_skip hw' (by rw [hd]; exact h _ w (ha.put_skip hn) hw)

theorem o_pure_guarded {o : Oper} {d g : Nat} {want : Bool} {v : Value} {rest : List Oper} (hp : Pure ds P n w0 o F H v) (hg : o.guard = some (g, want)) (dg : Nat) (hdg : ((ops[g]?).bind (·.dst)) = some dg)
    (hb : lk F dg = some (.bool want)) (hd : o.dst = some d) (hn : Nat.blt d n = true) (h : SO r ds P n w0 ops Q rest ((d, v) :: F) H) : SO r ds P n w0 ops Q (o :: rest) F H := fun a w ha hw =>
  wpL_step (value_nd (hp a w ha hw)) fun K hK => by
    have hy : yielded ops a.tmps g = some want := by simp [yielded, hdg, ha.knows dg _ hb]
    have hw' : Region.wanted o (yielded ops a.tmps) = true := by simp only [Region.wanted, hg, hy]; simp
    rw [if_pos hw']
    unfold Oper.wp
    rw [hp a w ha hw]
    simp only [Oper.upon, hd]
    exact hK _ _ (h _ w (ha.put hn v) hw)

/-- 'b && ..', 'b || ..' inside a region: the ways meet again behind the pick. -/
theorem o_and {l : List Oper} {s p : Nat} {b : Bool} (m : Nat) (y : Bool) (e1 : b = true → SO r ds P n w0 ops Q (l.drop m) ((p, .bool y) :: F) H → SO r ds P n w0 ops Q l ((s, .bool true) :: F) H)
    (e0 : b = false → SO r ds P n w0 ops Q (l.drop m) ((p, .bool false) :: F) H → SO r ds P n w0 ops Q l ((s, .bool false) :: F) H) (k : SO r ds P n w0 ops Q (l.drop m) ((p, .bool (b && y)) :: F) H) : SO r ds P n w0 ops Q l ((s, .bool b) :: F) H := by
  cases b
  · exact e0 rfl k
  · exact e1 rfl k
theorem o_or {l : List Oper} {s p : Nat} {b : Bool} (m : Nat) (y : Bool) (e1 : b = false → SO r ds P n w0 ops Q (l.drop m) ((p, .bool y) :: F) H → SO r ds P n w0 ops Q l ((s, .bool false) :: F) H)
    (e0 : b = true → SO r ds P n w0 ops Q (l.drop m) ((p, .bool true) :: F) H → SO r ds P n w0 ops Q l ((s, .bool true) :: F) H) (k : SO r ds P n w0 ops Q (l.drop m) ((p, .bool (b || y)) :: F) H) : SO r ds P n w0 ops Q l ((s, .bool b) :: F) H := by
  cases b
  · exact e1 rfl k
  · exact e0 rfl k

/-! ### Pure operations -/
section
variable {ty : TypeId} {pos : String} {after : Array Edge} {guard : Option (Nat × Bool)} {dst : Option Tmp}

theorem p_move {x : Operand} {v : Value} (hx : ev F x = some v) : Pure ds P n w0 ⟨dst, .move x, ty, pos, after, guard⟩ F H v := fun a w ha _ => by
  simp [execOp, ha.eval hx]
theorem p_assign {x : Operand} {v : Value} (hx : ev F x = some v) : Pure ds P n w0 ⟨dst, .assign x, ty, pos, after, guard⟩ F H v := fun a w ha _ => by
  simp [execOp, ha.eval hx]
theorem p_pick {c x y : Operand} {b : Bool} {u v r : Value} (hc : ev F c = some (.bool b)) (hx : ev F x = some u) (hy : ev F y = some v) (hr : r = bif b then u else v) : Pure ds P n w0 ⟨dst, .pick c x y, ty, pos, after, guard⟩ F H r := fun a w ha _ => by
  subst hr
  cases b <;> simp [execOp, ha.eval hc, ha.eval hx, ha.eval hy, asBool]
theorem p_pick_true {c x y : Operand} {u : Value} (hc : ev F c = some (.bool true)) (hx : ev F x = some u) : Pure ds P n w0 ⟨dst, .pick c x y, ty, pos, after, guard⟩ F H u := fun a w ha _ => by
  simp [execOp, ha.eval hc, ha.eval hx, asBool]
theorem p_pick_false {c x y : Operand} {v : Value} (hc : ev F c = some (.bool false)) (hy : ev F y = some v) : Pure ds P n w0 ⟨dst, .pick c x y, ty, pos, after, guard⟩ F H v := fun a w ha _ => by
  simp [execOp, ha.eval hc, ha.eval hy, asBool]
theorem p_extract {x : Operand} {i : Nat} {vs : List Value} {v : Value} (hx : ev F x = some (.tuple vs.toArray)) (hv : vs[i]? = some v) : Pure ds P n w0 ⟨dst, .extract x i, ty, pos, after, guard⟩ F H v := fun a w ha _ => by
  simp [execOp, ha.eval hx, Instr.extract, hv]
end
end
end Go.Sx
