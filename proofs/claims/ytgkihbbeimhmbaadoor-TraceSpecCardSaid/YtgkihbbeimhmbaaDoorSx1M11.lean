/- The core of a small symbolic execution over the kit's weakest preconditions: frames as association lists, the heap as a list of disjoint entries. -/
import Derived.WalkKit
import Derived.RangeFuncNested
import Derived.RangeFuncLeaves
import Derived.Deep.QuietTactic
import Derived.BigQuiet
import Derived.OrdersHeld
import Derived.ProofKit
import Derived.OpenShut
import Derived.ShutString
import Derived.ChangeOld
import Derived.SizedLaws
import Derived.ChangeKeysEq
import Derived.Laws.StructEq
namespace Go.Sx
open Go.RowKit

/-! ### Frames -/
def Fr := List (Nat × Value)

def lk : List (Nat × Value) → Nat → Option Value
  | [], _ => none
  | (s, v) :: F, t => bif Nat.beq s t then some v else lk F t

def ev (F : List (Nat × Value)) : Operand → Option Value
  | .tmp t => lk F t
  | .const v => some v
  | .global g => some (.pointer (some ⟨g, 0, none⟩))
  | .func f => some (.func (.func f) #[] #[])

def evs (F : List (Nat × Value)) : List Operand → Option (List Value)
  | [] => some []
  | x :: l => match ev F x, evs F l with
    | some v, some vs => some (v :: vs)
    | _, _ => none

/-- What is known of a frame of n slots. -/
structure Ok (n : Nat) (ds : List Deferred) (F : List (Nat × Value)) (a : Act) : Prop where
  defers : a.defers = ds
  size : a.tmps.size = n
  knows : ∀ t v, lk F t = some v → a.tmps[t]? = some v

theorem Ok.eval {n : Nat} {ds : List Deferred} {F : List (Nat × Value)} {a : Act} (h : Ok n ds F a) {x : Operand} {v : Value} (hx : ev F x = some v) : a.eval x = v := by
  cases x with
  | tmp t => have := h.knows t v hx; simp [Act.eval, Array.getD_eq_getD_getElem?, this]
  | const u => simp [ev] at hx; subst hx; rfl
  | global g => simp [ev] at hx; subst hx; rfl
  | func f => simp [ev] at hx; subst hx; rfl

theorem Ok.evals {n : Nat} {ds : List Deferred} {F : List (Nat × Value)} {a : Act} (h : Ok n ds F a) : ∀ {l : List Operand} {vs : List Value}, evs F l = some vs → l.map a.eval = vs
  | [], _, e => by simp [evs] at e; subst e; rfl
  | x :: l, vs, e => by
    simp only [evs] at e
    split at e
    · rename_i v vs' h1 h2
      simp only [Option.some.injEq] at e
      subst e
      simp [h.eval h1, h.evals h2]
    · simp at e

theorem lk_cons_ne {F : List (Nat × Value)} {s t : Nat} {v : Value} (h : s ≠ t) : lk ((s, v) :: F) t = lk F t := by
  have : Nat.beq s t = false := by
    cases hb : Nat.beq s t with
    | false => rfl
    | true => exact absurd (Nat.eq_of_beq_eq_true hb) h
  simp [lk, this]

theorem lk_cons_eq {F : List (Nat × Value)} {s : Nat} {v : Value} : lk ((s, v) :: F) s = some v := by
  simp [lk]

theorem Ok.put {n : Nat} {ds : List Deferred} {F : List (Nat × Value)} {a : Act} (h : Ok n ds F a) {d : Nat} (hd : Nat.blt d n = true) (v : Value) : Ok n ds ((d, v) :: F) (a.put (some d) v) where
  defers := h.defers
  size := by simp [Act.put, h.size]
  knows := by
    intro t u ht
    have hdn : d < n := by simpa [Nat.blt_eq] using hd
    by_cases e : d = t
    · subst e
      rw [lk_cons_eq] at ht
      simp only [Option.some.injEq] at ht
      subst ht
      simp [Act.put, h.size, hdn]
    · rw [lk_cons_ne e] at ht
      have := h.knows t u ht
      simp only [Act.put]
      rw [Array.getElem?_setIfInBounds_ne (by omega)]
      exact this

theorem Ok.put_none {n : Nat} {ds : List Deferred} {F : List (Nat × Value)} {a : Act} (h : Ok n ds F a) (v : Value) : Ok n ds F (a.put none v) := h

/-- Less is known. -/
def Sub (F F' : List (Nat × Value)) : Prop := ∀ t v, lk F' t = some v → lk F t = some v

theorem Ok.sub {n : Nat} {ds : List Deferred} {F F' : List (Nat × Value)} {a : Act} (h : Ok n ds F a) (hs : Sub F F') : Ok n ds F' a :=
  ⟨h.defers, h.size, fun t v ht => h.knows t v (hs t v ht)⟩

theorem Sub.nil (F : List (Nat × Value)) : Sub F [] := fun t v h => by simp [lk] at h
theorem Sub.cons {F F' : List (Nat × Value)} {s : Nat} {v : Value} (h1 : lk F s = some v) (h : Sub F F') : Sub F ((s, v) :: F') := by
  intro t u ht
  by_cases e : s = t
  · subst e; rw [lk_cons_eq] at ht; simp only [Option.some.injEq] at ht; subst ht; exact h1
  · rw [lk_cons_ne e] at ht; exact h t u ht
theorem Sub.refl (F : List (Nat × Value)) : Sub F F := fun _ _ h => h

/-! ### The heap -/

/-- w' is as w on the blocks of S. -/
def Agree (S : Nat → Prop) (w w' : World) : Prop := ∀ b, S b → w'.heap[b]? = w.heap[b]?

structure Ent where
  S : Nat → Prop
  A : World → Prop

structure Ent.Good (e : Ent) (w : World) : Prop where
  stable : ∀ w1 w2, Agree e.S w1 w2 → e.A w1 → e.A w2
  bound : ∀ b, e.S b → b < w.heap.size
  here : e.A w

def Disj (S T : Nat → Prop) : Prop := ∀ b, S b → T b → False

/-- The streams are as they were at w0. -/
structure Same (w0 w : World) : Prop where
  os : w.os = w0.os
  tape : w.tape = w0.tape
  output : w.output = w0.output

structure HeapIs (w0 : World) (H : List Ent) (w : World) : Prop where
  same : Same w0 w
  size : w0.heap.size ≤ w.heap.size
  good : ∀ e ∈ H, e.Good w
  apart : H.Pairwise fun e f => Disj e.S f.S

theorem HeapIs.drew {w0 : World} {H : List Ent} {w : World} (h : HeapIs w0 H w) (n : Nat) : HeapIs w0 H { w with drawn := n } :=
  ⟨⟨h.same.os, h.same.tape, h.same.output⟩, h.size, fun e he => ⟨(h.good e he).stable, (h.good e he).bound, (h.good e he).stable w _ (fun _ _ => rfl) (h.good e he).here⟩, h.apart⟩

/-! ### In a round of a range over a function, in a function that calls yield, or outside of both -/
/-- 0: a plain frame that may call yield; l + 1: a round of loop l. -/
def fenceOf : Nat → Fence
  | 0 => Fence.wide
  | l + 1 => Fence.wide.inRound l
theorem fenceOf_fn (l : Nat) (f : FuncId) : (fenceOf l).fn f := by cases l <;> trivial
theorem fenceOf_depth (l : Nat) : (fenceOf l).depth = none := by cases l <;> rfl
theorem fenceOf_room (l m : Nat) : (fenceOf l).room m := by cases l <;> exact room_wide m
theorem fenceOf_sem (l : Nat) (ρ : Operand → Value) (o : Oper) (hd : ∀ c, o.op ≠ .defer c) : o.semAt (fenceOf l).round ρ = execOp ρ o := by
  cases l with
  | zero => exact Oper.semAt_none ρ o
  | succ l => exact Oper.semAt_some l ρ o hd
theorem fenceOf_calls {l k : Nat} {P : Program} {f : FuncId} {args : Array Value} {w : World} {R : Ending → World → Prop} (h : Calls P f args w R) : CallsIn (fenceOf l) k P f args w R := by
  cases l with
  | zero => exact callsIn_wide.2 h
  | succ l => exact CallsIn.inRound l (callsIn_wide.2 h)
theorem fenceOf_steps {l : Nat} {P : Program} {m m' : Machine} (h : Steps P m m') : StepsIn (Machine.fenced P (fenceOf l)) P m m' := by
  cases l with
  | zero => exact stepsIn_wide.2 h
  | succ l => exact stepsIn_wide.2 h
def wpC (r : Option Nat) (P : Program) (c : Code) (Q : Exit → Act → World → Prop) (a : Act) (w : World) : Prop :=
  match r with
  | none => c.wp P Q a w
  | some l => c.wpIn (fenceOf l) 0 P Q a w
def wpL (r : Option Nat) (P : Program) (ops : Array Oper) (Q : Exit → Act → World → Prop) (L : List Oper) (a : Act) (w : World) : Prop :=
  match r with
  | none => wpList P ops Q L a w
  | some l => wpListIn (fenceOf l) 0 P ops Q L a w
theorem op_in {l : Nat} {P : Program} {o : Oper} {a : Act} {w : World} {K : Act → World → Prop} {Q : Exit → Act → World → Prop} (hd : ∀ c, o.op ≠ .defer c) (h : o.wp P a w K Q) : o.wpIn (fenceOf l) 0 P a w K Q := by
  refine ⟨fun _ _ => fenceOf_fn _ _, ?_⟩
  rw [fenceOf_sem _ _ _ hd]
  unfold Oper.wp at h
  revert h
  generalize (execOp a.eval o).run P w = res
  intro h
  cases res with
  | ok x w' =>
    cases x with
    | value v => exact h
    | skip => exact h
    | defer d => exact h
    | enter f args => exact ⟨fun hh => by simp [fenceOf_depth] at hh, fenceOf_calls h⟩
    | row row args => exact ⟨fun hh => by simp [fenceOf_depth] at hh, fun c cs _ => let ⟨v, w', q, s⟩ := h c cs; ⟨v, w', q, fenceOf_steps s⟩⟩
    | round _ _ _ _ _ => exact h.elim
    | _ => exact h.elim
  | halt x w' => 
    cases x with
    | panic v => exact h
    | _ => exact h.elim
section
variable {P : Program} {r : Option Nat} {ops : Array Oper} {Q : Exit → Act → World → Prop} {a : Act} {w : World} {rest : List Oper} {o : Oper}
theorem wpL_step (hd : ∀ c, o.op ≠ .defer c) (h : ∀ K : Act → World → Prop, (∀ a w, wpL r P ops Q rest a w → K a w) → if Region.wanted o (yielded ops a.tmps) then o.wp P a w K Q else K (a.put o.dst undef) w) : wpL r P ops Q (o :: rest) a w := by
  cases r with
  | none => exact wpList_step h
  | some l =>
    refine wpListIn_step fun K hK => ?_
    have := h K hK
    split at this
    · rename_i hw; rw [if_pos hw]; exact op_in hd this
    · rename_i hw; rw [if_neg hw]; exact ⟨fun _ _ => fenceOf_fn _ _, this⟩
theorem wpL_plain (hg : o.guard = none) (hd : ∀ c, o.op ≠ .defer c) (h : ∀ K : Act → World → Prop, (∀ a w, wpL r P ops Q rest a w → K a w) → o.wp P a w K Q) : wpL r P ops Q (o :: rest) a w :=
  wpL_step hd fun K hK => by simp only [Region.wanted, hg, if_true]; exact h K hK
/-- an operation that is passed over -/
theorem wpL_skip (hw : Region.wanted o (yielded ops a.tmps) = false) (h : wpL r P ops Q rest (a.put o.dst undef) w) : wpL r P ops Q (o :: rest) a w := by
  cases r with
  | none => exact wpList_step fun K hK => by rw [if_neg (by simp [hw])]; exact hK _ _ h
  | some l => exact wpListIn_step fun K hK => by rw [if_neg (by simp [hw])]; exact ⟨fun _ _ => fenceOf_fn _ _, hK _ _ h⟩
theorem value_nd {v : Value} (h : (execOp a.eval o).run P w = .ok (.value v) w) : ∀ c, o.op ≠ .defer c := by
  intro c hc
  unfold execOp at h
  rw [hc] at h
  simp only [Sem.run_bind] at h
  revert h
  generalize (resolve a.eval c o.type).run P w = res
  intro h
  cases res <;> simp [Result.andThen] at h
end

/-! ### Judgements -/
section
variable (r : Option Nat) (ds : List Deferred) (P : Program) (n : Nat) (w0 : World)

/-- A piece of code, from what is known of frame and heap. -/
def SC (Q : Exit → Act → World → Prop) (c : Code) (F : List (Nat × Value)) (H : List Ent) : Prop :=
  ∀ a w, Ok n ds F a → HeapIs w0 H w → wpC r P c Q a w

/-- A way out. -/
def SQ (Q : Exit → Act → World → Prop) (e : Exit) (F : List (Nat × Value)) (H : List Ent) : Prop :=
  ∀ a w, Ok n ds F a → HeapIs w0 H w → Q e a w

/-- A list of operations, from what is known of frame and heap. -/
def SO (ops : Array Oper) (Q : Exit → Act → World → Prop) (l : List Oper) (F : List (Nat × Value)) (H : List Ent) : Prop :=
  ∀ a w, Ok n ds F a → HeapIs w0 H w → wpL r P ops Q l a w
end

section
variable {P : Program} {n : Nat} {w0 : World} {r : Option Nat} {ds : List Deferred} {Q : Exit → Act → World → Prop} {F F' : List (Nat × Value)} {H : List Ent} {ops : Array Oper}

theorem c_skip (h : SQ ds n w0 Q .normal F H) : SC r ds P n w0 Q .skip F H := fun a w ha hw => by cases r; exact wp_skip (h a w ha hw); exact wpIn_skip (h a w ha hw)
theorem c_ret (h : SQ ds n w0 Q .ret F H) : SC r ds P n w0 Q .ret F H := fun a w ha hw => by cases r; exact wp_ret (h a w ha hw); exact wpIn_ret (h a w ha hw)
theorem c_exit {id : Nat} (h : SQ ds n w0 Q (.exit id) F H) : SC r ds P n w0 Q (.exit id) F H := fun a w ha hw => by cases r; exact wp_exit (h a w ha hw); exact wpIn_exit (h a w ha hw)
theorem c_seq {x y : Code} (h : SC r ds P n w0 (Exit.then (wpC r P y Q) Q) x F H) : SC r ds P n w0 Q (.seq x y) F H := fun a w ha hw => by cases r; exact wp_seq (h a w ha hw); exact wpIn_seq (h a w ha hw)
theorem c_block {id : Nat} {c : Code} (h : SC r ds P n w0 (Exit.inBlock id Q) c F H) : SC r ds P n w0 Q (.block id c) F H := fun a w ha hw => by cases r; exact wp_block (h a w ha hw); exact wpIn_block (h a w ha hw)
theorem c_region {id : Nat} {l : List Oper} (h : SO r ds P n w0 l.toArray Q l F H) : SC r ds P n w0 Q (.region id l.toArray false) F H := fun a w ha hw => by cases r; exact wp_region_lit (h a w ha hw); exact wpIn_region_lit (h a w ha hw)
theorem c_cond {c : Operand} {x y : Code} {b : Bool} (hc : ev F c = some (.bool b)) (h1 : b = true → SC r ds P n w0 Q x F H) (h2 : b = false → SC r ds P n w0 Q y F H) : SC r ds P n w0 Q (.cond c x y) F H :=
  fun a w ha hw => by cases r; exact wp_cond_split (ha.eval hc) (fun e => h1 e a w ha hw) (fun e => h2 e a w ha hw); exact wpIn_cond_split (ha.eval hc) (fun e => h1 e a w ha hw) (fun e => h2 e a w ha hw)
theorem c_true {c : Operand} {x y : Code} (hc : ev F c = some (.bool true)) (h1 : SC r ds P n w0 Q x F H) : SC r ds P n w0 Q (.cond c x y) F H :=
  fun a w ha hw => by cases r; exact wp_cond_true (ha.eval hc) (h1 a w ha hw); exact wpIn_cond_true (ha.eval hc) (h1 a w ha hw)
theorem c_false {c : Operand} {x y : Code} (hc : ev F c = some (.bool false)) (h1 : SC r ds P n w0 Q y F H) : SC r ds P n w0 Q (.cond c x y) F H :=
  fun a w ha hw => by cases r; exact wp_cond_false (ha.eval hc) (h1 a w ha hw); exact wpIn_cond_false (ha.eval hc) (h1 a w ha hw)

theorem c_sub {c : Code} (hs : Sub F F') (h : SC r ds P n w0 Q c F' H) : SC r ds P n w0 Q c F H := fun a w ha hw => h a w (ha.sub hs) hw

/-- The ways out through 'then' and 'inBlock'. -/
theorem q_then {y : Code} (h : SC r ds P n w0 Q y F H) : SQ ds n w0 (Exit.then (wpC r P y Q) Q) .normal F H := h
theorem q_then_ret {K : Act → World → Prop} (h : SQ ds n w0 Q .ret F H) : SQ ds n w0 (Exit.then K Q) .ret F H := h
theorem q_then_exit {K : Act → World → Prop} {id : Nat} (h : SQ ds n w0 Q (.exit id) F H) : SQ ds n w0 (Exit.then K Q) (.exit id) F H := h
theorem q_block_normal {id : Nat} (h : SQ ds n w0 Q .normal F H) : SQ ds n w0 (Exit.inBlock id Q) .normal F H := h
theorem q_block_ret {id : Nat} (h : SQ ds n w0 Q .ret F H) : SQ ds n w0 (Exit.inBlock id Q) .ret F H := h
theorem q_block_exit {id : Nat} (h : SQ ds n w0 Q .normal F H) : SQ ds n w0 (Exit.inBlock id Q) (.exit id) F H := fun a w ha hw => by
  simp only [Exit.inBlock, if_true]; exact h a w ha hw
theorem q_block_pass {id id' : Nat} (hn : Nat.beq id' id = false) (h : SQ ds n w0 Q (.exit id') F H) : SQ ds n w0 (Exit.inBlock id Q) (.exit id') F H := fun a w ha hw => by
  have : id' ≠ id := by intro e; subst e; simp at hn
  simp only [Exit.inBlock, if_neg this]; exact h a w ha hw

theorem o_nil (h : SQ ds n w0 Q .normal F H) : SO r ds P n w0 ops Q [] F H := fun a w ha hw => by cases r; exact h a w ha hw; exact h a w ha hw
theorem o_sub {l : List Oper} (hs : Sub F F') (h : SO r ds P n w0 ops Q l F' H) : SO r ds P n w0 ops Q l F H := fun a w ha hw => h a w (ha.sub hs) hw

/-- An operation that leaves the heap alone and gives v. -/
def Pure (ds : List Deferred) (P : Program) (n : Nat) (w0 : World) (o : Oper) (F : List (Nat × Value)) (H : List Ent) (v : Value) : Prop :=
  ∀ a w, Ok n ds F a → HeapIs w0 H w → (execOp a.eval o).run P w = .ok (.value v) w

theorem o_pure {o : Oper} {d : Nat} {v : Value} {rest : List Oper} (hp : Pure ds P n w0 o F H v) (hg : o.guard = none) (hd : o.dst = some d) (hn : Nat.blt d n = true)
    (h : SO r ds P n w0 ops Q rest ((d, v) :: F) H) : SO r ds P n w0 ops Q (o :: rest) F H := fun a w ha hw =>
  wpL_plain hg (value_nd (hp a w ha hw)) fun K hK => by
    unfold Oper.wp
    rw [hp a w ha hw]
    simp only [Oper.upon, hd]
    exact hK _ _ (h _ w (ha.put hn v) hw)

theorem Sub.skip {F F' : List (Nat × Value)} {s : Nat} {v : Value} (hs : lk F' s = none) (h : Sub F F') : Sub ((s, v) :: F) F' := by
  intro t u ht
  by_cases e : s = t
  · subst e; rw [hs] at ht; cases ht
  · rw [lk_cons_ne e]; exact h t u ht

theorem Ok.put_skip {d : Nat} {a : Act} (ha : Ok n ds F a) (hn : Nat.blt d n = true) : Ok n ds ((d, undef) :: F) (a.put (some d) undef) := ha.put hn undef

/-- A guarded operation whose guard says no (or was itself passed over). -/
theorem o_guard_no {o : Oper} {d g : Nat} {want : Bool} {u : Value} {rest : List Oper} (hg : o.guard = some (g, want)) (dg : Nat) (hdg : ((ops[g]?).bind (·.dst)) = some dg) (hb : lk F dg = some u) (hne : (match u with | .bool b => b == want | _ => false) = false)
    (hd : o.dst = some d) (hn : Nat.blt d n = true) (h : SO r ds P n w0 ops Q rest ((d, undef) :: F) H) : SO r ds P n w0 ops Q (o :: rest) F H := fun a w ha hw => by
  have hw' : Region.wanted o (yielded ops a.tmps) = false := by
    simp only [Region.wanted, hg, yielded, hdg, Option.bind_some, ha.knows dg _ hb]
    cases u <;> simp_all
  exact wpL_skip hw' (by rw [hd]; exact h _ w (ha.put_skip hn) hw)

theorem o_pure_guarded {o : Oper} {d g : Nat} {want : Bool} {v : Value} {rest : List Oper} (hp : Pure ds P n w0 o F H v) (hg : o.guard = some (g, want)) (dg : Nat) (hdg : ((ops[g]?).bind (·.dst)) = some dg)
    (hb : lk F dg = some (.bool want)) (hd : o.dst = some d) (hn : Nat.blt d n = true) (h : SO r ds P n w0 ops Q rest ((d, v) :: F) H) : SO r ds P n w0 ops Q (o :: rest) F H := fun a w ha hw =>
  wpL_step (value_nd (hp a w ha hw)) fun K hK => by
    have hy : yielded ops a.tmps g = some want := by simp [yielded, hdg, ha.knows dg _ hb]
    have hw' : Region.wanted o (yielded ops a.tmps) = true := by simp only [Region.wanted, hg, hy]; simp
    rw [if_pos hw']
    unfold Oper.wp
    rw [hp a w ha hw]
    simp only [Oper.upon, hd]
    exact hK _ _ (h _ w (ha.put hn v) hw)

/-- 'b && ..', 'b || ..' inside a region: the ways meet again behind the pick. -/
theorem o_and {l : List Oper} {s p : Nat} {b : Bool} (m : Nat) (y : Bool) (e1 : b = true → SO r ds P n w0 ops Q (l.drop m) ((p, .bool y) :: F) H → SO r ds P n w0 ops Q l ((s, .bool true) :: F) H)
    (e0 : b = false → SO r ds P n w0 ops Q (l.drop m) ((p, .bool false) :: F) H → SO r ds P n w0 ops Q l ((s, .bool false) :: F) H) (k : SO r ds P n w0 ops Q (l.drop m) ((p, .bool (b && y)) :: F) H) : SO r ds P n w0 ops Q l ((s, .bool b) :: F) H := by
  cases b
  · exact e0 rfl k
  · exact e1 rfl k
theorem o_or {l : List Oper} {s p : Nat} {b : Bool} (m : Nat) (y : Bool) (e1 : b = false → SO r ds P n w0 ops Q (l.drop m) ((p, .bool y) :: F) H → SO r ds P n w0 ops Q l ((s, .bool false) :: F) H)
    (e0 : b = true → SO r ds P n w0 ops Q (l.drop m) ((p, .bool true) :: F) H → SO r ds P n w0 ops Q l ((s, .bool true) :: F) H) (k : SO r ds P n w0 ops Q (l.drop m) ((p, .bool (b || y)) :: F) H) : SO r ds P n w0 ops Q l ((s, .bool b) :: F) H := by
  cases b
  · exact e1 rfl k
  · exact e0 rfl k

/-! ### Pure operations -/
section
variable {ty : TypeId} {pos : String} {after : Array Edge} {guard : Option (Nat × Bool)} {dst : Option Tmp}

theorem p_move {x : Operand} {v : Value} (hx : ev F x = some v) : Pure ds P n w0 ⟨dst, .move x, ty, pos, after, guard⟩ F H v := fun a w ha _ => by
  simp [execOp, ha.eval hx]
theorem p_assign {x : Operand} {v : Value} (hx : ev F x = some v) : Pure ds P n w0 ⟨dst, .assign x, ty, pos, after, guard⟩ F H v := fun a w ha _ => by
  simp [execOp, ha.eval hx]
theorem p_pick {c x y : Operand} {b : Bool} {u v r : Value} (hc : ev F c = some (.bool b)) (hx : ev F x = some u) (hy : ev F y = some v) (hr : r = bif b then u else v) : Pure ds P n w0 ⟨dst, .pick c x y, ty, pos, after, guard⟩ F H r := fun a w ha _ => by
  subst hr
  cases b <;> simp [execOp, ha.eval hc, ha.eval hx, ha.eval hy, asBool]
theorem p_pick_true {c x y : Operand} {u : Value} (hc : ev F c = some (.bool true)) (hx : ev F x = some u) : Pure ds P n w0 ⟨dst, .pick c x y, ty, pos, after, guard⟩ F H u := fun a w ha _ => by
  simp [execOp, ha.eval hc, ha.eval hx, asBool]
theorem p_pick_false {c x y : Operand} {v : Value} (hc : ev F c = some (.bool false)) (hy : ev F y = some v) : Pure ds P n w0 ⟨dst, .pick c x y, ty, pos, after, guard⟩ F H v := fun a w ha _ => by
  simp [execOp, ha.eval hc, ha.eval hy, asBool]
theorem p_extract {x : Operand} {i : Nat} {vs : List Value} {v : Value} (hx : ev F x = some (.tuple vs.toArray)) (hv : vs[i]? = some v) : Pure ds P n w0 ⟨dst, .extract x i, ty, pos, after, guard⟩ F H v := fun a w ha _ => by
  simp [execOp, ha.eval hx, Instr.extract, hv]
end
end
end Go.Sx

/- Boxes (a block of cells of the call's own), arithmetic, fields, loads and stores. -/
namespace Go.Sx
open Go.RowKit

/-! ### What is asked of the program's types -/
def zeroOf (P : Program) (t : TypeId) : Option (List Value) := ((P.info? t).bind (·.zero)).map (·.cells.toList)
def sizeIs (P : Program) (t : TypeId) : Option Nat := (P.info? t).map (·.size)
def one1 : Value → Bool
  | .agg _ | .tuple _ => false
  | _ => true
/-- 'some none': a value of one cell that is no aggregate; 'some (some n)': an aggregate of n cells. -/
def shp (P : Program) (t : TypeId) : Option (Option Nat) :=
  match P.underlying t, P.info? t with
  | some (.struct _), some i => some (some i.size)
  | some (.array _ _), some i => some (some i.size)
  | some _, some _ => some none
  | _, _ => none
def fieldOff (P : Program) (s : TypeId) (f : Nat) : Option Nat :=
  match P.underlying s with
  | some (.struct fs) => match fs[f]? with
    | some g => match P.info? g.type with
      | some i => if i.size = 0 then none else some g.offset
      | none => none
    | none => none
  | _ => none

section
variable {P : Program}

theorem run_underlying {t : TypeId} {d : TypeDesc} (h : P.underlying t = some d) (w : World) : (Go.underlying t).run P w = .ok d w := by
  simp [Go.underlying, program, Bind.bind, Sem.bind, Sem.run, h, Pure.pure]

theorem run_typeInfo {t : TypeId} {i : TypeInfo} (h : P.info? t = some i) (w : World) : (typeInfo t).run P w = .ok i w := by
  simp [typeInfo, program, Bind.bind, Sem.bind, Sem.run, h, Pure.pure]

theorem run_bind {α β : Type} (x : Sem α) (f : α → Sem β) (w : World) : (x >>= f).run P w = (match x.run P w with | .ok a w' => (f a).run P w' | .halt h w' => .halt h w') := by
  have := Sem.run_bind' P x f w
  show (x.bind f).run P w = _
  rw [this]
  cases x.run P w <;> rfl

theorem run_pure {α : Type} (a : α) (w : World) : (pure a : Sem α).run P w = .ok a w := rfl

theorem shp_cases {t : TypeId} {r : Option Nat} (h : shp P t = some r) : ∃ d i, P.underlying t = some d ∧ P.info? t = some i ∧ r = (match d with | .struct _ | .array _ _ => some i.size | _ => none) := by
  unfold shp at h
  cases hu : P.underlying t with
  | none => rw [hu] at h; simp at h
  | some d =>
    cases hi : P.info? t with
    | none => rw [hu, hi] at h; cases d <;> simp at h
    | some i =>
      rw [hu, hi] at h
      refine ⟨d, i, rfl, rfl, ?_⟩
      cases d <;> (simp only [Option.some.injEq] at h; exact h.symm)

theorem shp_some {t : TypeId} {n : Nat} (h : shp P t = some (some n)) : ∃ d i, P.underlying t = some d ∧ P.info? t = some i ∧ i.size = n ∧ ((∃ fs, d = .struct fs) ∨ ∃ l e, d = .array l e) := by
  obtain ⟨d, i, h1, h2, h3⟩ := shp_cases h
  cases d <;> simp only [Option.some.injEq, reduceCtorEq] at h3
  · exact ⟨_, i, h1, h2, h3.symm, by first | exact .inl ⟨_, rfl⟩ | exact .inr ⟨_, _, rfl⟩⟩
  · exact ⟨_, i, h1, h2, h3.symm, by first | exact .inl ⟨_, rfl⟩ | exact .inr ⟨_, _, rfl⟩⟩

theorem shp_none {t : TypeId} (h : shp P t = some none) : ∃ d i, P.underlying t = some d ∧ P.info? t = some i ∧ (∀ fs, d ≠ .struct fs) ∧ ∀ l e, d ≠ .array l e := by
  obtain ⟨d, i, h1, h2, h3⟩ := shp_cases h
  cases d <;> simp only [reduceCtorEq] at h3
  all_goals exact ⟨_, i, h1, h2, by simp, by simp⟩

theorem run_isAgg_true {t : TypeId} {n : Nat} (h : shp P t = some (some n)) (w : World) : (isAgg t).run P w = .ok true w := by
  obtain ⟨d, i, h1, h2, h3, h4⟩ := shp_some h
  unfold isAgg
  rw [run_bind, run_underlying h1]
  rcases h4 with ⟨fs, rfl⟩ | ⟨l, e, rfl⟩ <;> rfl

theorem run_isAgg_false {t : TypeId} (h : shp P t = some none) (w : World) : (isAgg t).run P w = .ok false w := by
  obtain ⟨d, i, h1, h2, h3, h4⟩ := shp_none h
  unfold isAgg
  rw [run_bind, run_underlying h1]
  cases d <;> first | rfl | exact absurd rfl (h3 _) | exact absurd rfl (h4 _ _)

theorem run_load {a : Addr} {v : Value} {w : World} (h : w.cell? a = some v) : (load a).run P w = .ok v w := by
  simp [load, Sem.run, h]

theorem run_loadCellsFrom {w : World} {a : Addr} : ∀ (n i : Nat) (acc : Array Value) (cs : List Value), cs.length = n → (∀ j, j < n → w.cell? (a.add (i + j)) = cs[j]?) → (loadCellsFrom a i n acc).run P w = .ok (acc ++ cs.toArray) w
  | 0, i, acc, cs, hl, _ => by
    have : cs = [] := List.length_eq_zero_iff.1 hl
    subst this; simp [loadCellsFrom]
  | n + 1, i, acc, cs, hl, h => by
    match cs, hl with
    | c :: cs, hl =>
      have h0 := h 0 (by omega)
      simp at h0
      unfold loadCellsFrom
      rw [run_bind, run_load h0]
      simp only []
      rw [run_loadCellsFrom n (i + 1) _ cs (by simpa using hl) (fun j hj => by have := h (j + 1) (by omega); rw [show i + 1 + j = i + (j + 1) by omega]; simpa using this)]
      simp

theorem run_loadVar_agg {t : TypeId} {n : Nat} {a : Addr} {w : World} {cs : List Value} (h : shp P t = some (some n)) (hl : cs.length = n) (hc : ∀ j, j < n → w.cell? (a.add j) = cs[j]?) : (loadVar t a).run P w = .ok (.agg cs.toArray) w := by
  obtain ⟨d, i, h1, h2, h3, h4⟩ := shp_some h
  have hl' := run_loadCellsFrom (P := P) n 0 #[] cs hl (fun j hj => by simpa using hc j hj)
  simp [loadVar, sizeOf, loadCells, run_isAgg_true h, run_typeInfo h2, h3, hl']

theorem run_loadVar_one {t : TypeId} {a : Addr} {w : World} {v : Value} (h : shp P t = some none) (hc : w.cell? a = some v) : (loadVar t a).run P w = .ok v w := by
  unfold loadVar
  rw [run_bind, run_isAgg_false h]
  exact run_load hc

theorem run_store {a : Addr} {v u : Value} {w : World} (hv : one1 v = true) (h : w.cell? a = some u) (hf : w.frozen? a = false) : (store a v).run P w = .ok () (w.setCell a v) := by
  unfold store
  cases v <;> simp [one1] at hv <;> simp [Sem.run, h, hf]
end

/-! ### Boxes -/
def box (B : Nat) (cs : List Value) (T : TypeId) : Ent := ⟨fun b => b = B, fun w => w.heap[B]? = some (.cells cs.toArray T (0, 0))⟩

theorem HeapIs.alloc {w0 : World} {H : List Ent} {w : World} (h : HeapIs w0 H w) (cs : List Value) (T : TypeId) : HeapIs w0 (box w.heap.size cs T :: H) { w with heap := w.heap.push (.cells cs.toArray T) } := by
  have hag : ∀ e ∈ H, Agree e.S w { w with heap := w.heap.push (.cells cs.toArray T) } := fun e he b hb => by
    have := (h.good e he).bound b hb
    show (w.heap.push _)[b]? = _
    rw [Array.getElem?_push, if_neg (by omega)]
  refine ⟨⟨h.same.os, h.same.tape, h.same.output⟩, by have := h.size; simp; omega, ?_, ?_⟩
  · intro e he
    rcases List.mem_cons.1 he with rfl | he
    · exact ⟨fun w1 w2 ha hA => by have := ha w.heap.size rfl; simp only [box] at *; rw [this]; exact hA, fun b hb => by simp only [box] at hb; subst hb; simp, by simp only [box]; exact Array.getElem?_push_size⟩
    · have g := h.good e he
      exact ⟨g.stable, fun b hb => by have := g.bound b hb; simp; omega, g.stable _ _ (hag e he) g.here⟩
  · refine List.pairwise_cons.2 ⟨fun e he b hb hb' => ?_, h.apart⟩
    simp only [box] at hb
    have := (h.good e he).bound b hb'
    omega

/-- An entry of the heap, by its place. -/
theorem HeapIs.at {w0 : World} {H : List Ent} {w : World} (h : HeapIs w0 H w) {i : Nat} {e : Ent} (hi : H[i]? = some e) : e.Good w := h.good e (List.mem_of_getElem? hi)

theorem box_cell {w : World} {B : Nat} {cs : List Value} {T : TypeId} (h : (box B cs T).A w) (j : Nat) : w.cell? ⟨B, j, none⟩ = cs[j]? := by
  have h' : w.heap[B]? = some (.cells cs.toArray T (0, 0)) := h
  simp [World.cell?, h']

theorem box_cell_add {w : World} {B j0 : Nat} {cs : List Value} {T : TypeId} (h : (box B cs T).A w) (j : Nat) : w.cell? (Addr.add ⟨B, j0, none⟩ j) = cs[j0 + j]? := by
  unfold Addr.add
  split
  · rename_i e; subst e; exact box_cell h _
  · exact box_cell h _

theorem box_frozen {w : World} {B : Nat} {cs : List Value} {T : TypeId} (h : (box B cs T).A w) (j : Nat) : w.frozen? ⟨B, j, none⟩ = false := by
  have h' : w.heap[B]? = some (.cells cs.toArray T (0, 0)) := h
  simp [World.frozen?, h']

/-- What lies at an entry is changed; nothing else is. -/
theorem HeapIs.change {w0 : World} {H : List Ent} {w w' : World} (h : HeapIs w0 H w) {i : Nat} {e e' : Ent} (hi : H[i]? = some e) (hsame : Same w w') (hsize : w.heap.size ≤ w'.heap.size)
    (hS : ∀ b, e'.S b → e.S b ∨ (w.heap.size ≤ b ∧ b < w'.heap.size)) (hag : ∀ b, b < w.heap.size → ¬ e.S b → w'.heap[b]? = w.heap[b]?) (hst : ∀ w1 w2, Agree e'.S w1 w2 → e'.A w1 → e'.A w2) (hA : e'.A w') : HeapIs w0 (H.set i e') w' := by
  have hmem := List.mem_of_getElem? hi
  obtain ⟨hlt, hget⟩ := List.getElem?_eq_some_iff.1 hi
  have hap := List.pairwise_iff_getElem.1 h.apart
  have dis : ∀ j (hj : j < H.length), j ≠ i → Disj e.S (H[j]).S := fun j hj hne b hb hb' => by
    rcases Nat.lt_or_gt_of_ne hne with hl | hl
    · exact hap j i hj hlt hl b hb' (by rw [hget]; exact hb)
    · exact hap i j hlt hj hl b (by rw [hget]; exact hb) hb'
  refine ⟨⟨hsame.os.trans h.same.os, hsame.tape.trans h.same.tape, hsame.output.trans h.same.output⟩, Nat.le_trans h.size hsize, ?_, ?_⟩
  · intro f hf
    obtain ⟨j, hj, rfl⟩ := List.mem_iff_getElem.1 hf
    rw [List.getElem_set]
    have hj' : j < H.length := by simpa using hj
    split
    · exact ⟨hst, fun b hb => by rcases hS b hb with hb | hb
                                 · have := (h.good e hmem).bound b hb; omega
                                 · exact hb.2, hA⟩
    · rename_i hne
      have g := h.good H[j] (List.getElem_mem hj')
      refine ⟨g.stable, fun b hb => by have := g.bound b hb; omega, g.stable w w' (fun b hb => hag b (g.bound b hb) fun he => dis j hj' (fun e => hne e.symm) b he hb) g.here⟩
  · refine List.pairwise_iff_getElem.2 fun j k hj hk hjk b hb hb' => ?_
    rw [List.getElem_set] at hb hb'
    have hj' : j < H.length := by simpa using hj
    have hk' : k < H.length := by simpa using hk
    have far : ∀ m (hm : m < H.length), m ≠ i → e'.S b → (H[m]).S b → False := fun m hm hne h1 h2 => by
      rcases hS b h1 with h1 | h1
      · exact dis m hm hne b h1 h2
      · have := (h.good H[m] (List.getElem_mem hm)).bound b h2; omega
    split at hb <;> split at hb'
    · omega
    · rename_i e1 e2; exact far k hk' (fun e => e2 e.symm) hb hb'
    · rename_i e1 e2; exact far j hj' (fun e => e1 e.symm) hb' hb
    · exact hap j k hj' hk' hjk b hb hb'

theorem HeapIs.store {w0 : World} {H : List Ent} {w : World} (h : HeapIs w0 H w) {i B j : Nat} {cs : List Value} {T : TypeId} (hi : H[i]? = some (box B cs T)) (v : Value) :
    HeapIs w0 (H.set i (box B (cs.set j v) T)) (w.setCell ⟨B, j, none⟩ v) := by
  have g := (h.at hi).here
  have g' : w.heap[B]? = some (.cells cs.toArray T (0, 0)) := g
  refine h.change hi ⟨rfl, rfl, rfl⟩ (by simp [World.setCell]) (fun b hb => .inl hb) (fun b _ hb => Below.heap_setCell _ _ _ _ hb) (fun w1 w2 ha hA => by have := ha B rfl; simp only [box] at *; rw [this]; exact hA) ?_
  show (w.setCell _ v).heap[B]? = _
  simp [World.setCell, Array.getElem?_modify, g']

theorem HeapIs.drop {w0 : World} {H H' : List Ent} {w : World} (h : HeapIs w0 H w) (hs : H'.Sublist H) : HeapIs w0 H' w :=
  ⟨h.same, h.size, fun e he => h.good e (hs.subset he), h.apart.sublist hs⟩

section
variable {P : Program} {n : Nat} {w0 : World} {r : Option Nat} {ds : List Deferred} {Q : Exit → Act → World → Prop} {F F' : List (Nat × Value)} {H H' : List Ent} {ops : Array Oper}
variable {ty : TypeId} {pos : String} {after : Array Edge} {guard : Option (Nat × Bool)} {dst : Option Tmp} {rest : List Oper} {d : Nat}

theorem c_drop {c : Code} (hs : H'.Sublist H) (h : SC r ds P n w0 Q c F H') : SC r ds P n w0 Q c F H := fun a w ha hw => h a w ha (hw.drop hs)
theorem o_drop {l : List Oper} (hs : H'.Sublist H) (h : SO r ds P n w0 ops Q l F H') : SO r ds P n w0 ops Q l F H := fun a w ha hw => h a w ha (hw.drop hs)
theorem q_drop {e : Exit} (hs : H'.Sublist H) (h : SQ ds n w0 Q e F H') : SQ ds n w0 Q e F H := fun a w ha hw => h a w ha (hw.drop hs)

theorem o_alloc {T : TypeId} {z : List Value} (hz : zeroOf P T = some z) (hn : Nat.blt d n = true) (h : ∀ B, SO r ds P n w0 ops Q rest ((d, .pointer (some ⟨B, 0, none⟩)) :: F) (box B z T :: H)) :
    SO r ds P n w0 ops Q (⟨some d, .alloc T, ty, pos, after, none⟩ :: rest) F H := fun a w ha hw =>
  wpL_plain rfl (fun _ h => by cases h) fun K hK => by
    unfold zeroOf at hz
    simp only [Option.map_eq_some_iff, Option.bind_eq_some_iff] at hz
    obtain ⟨v, ⟨i, hi, hv⟩, rfl⟩ := hz
    have hrun : (execOp a.eval ⟨some d, .alloc T, ty, pos, after, none⟩).run P w = .ok (.value (.pointer (some ⟨w.heap.size, 0, none⟩))) { w with heap := w.heap.push (.cells v.cells T) } := by
      simp [execOp, Instr.alloc, zeroValue, newVar, newRow, newObj, run_typeInfo hi, hv, Sem.run]
    unfold Oper.wp
    rw [hrun]
    exact hK _ _ (h w.heap.size _ _ (ha.put hn _) (by simpa using hw.alloc v.cells.toList T))

theorem o_box {T : TypeId} {x : Operand} {v : Value} (hx : ev F x = some v) (hn : Nat.blt d n = true) (h : ∀ B, SO r ds P n w0 ops Q rest ((d, .pointer (some ⟨B, 0, none⟩)) :: F) (box B v.cells.toList T :: H)) :
    SO r ds P n w0 ops Q (⟨some d, .box T x, ty, pos, after, none⟩ :: rest) F H := fun a w ha hw =>
  wpL_plain rfl (fun _ h => by cases h) fun K hK => by
    have hrun : (execOp a.eval ⟨some d, .box T x, ty, pos, after, none⟩).run P w = .ok (.value (.pointer (some ⟨w.heap.size, 0, none⟩))) { w with heap := w.heap.push (.cells v.cells T) } := by
      simp [execOp, Instr.box, newVar, newRow, newObj, Sem.run, ha.eval hx]
    unfold Oper.wp
    rw [hrun]
    exact hK _ _ (h w.heap.size _ _ (ha.put hn _) (by simpa using hw.alloc v.cells.toList T))

theorem run_fieldAt {s : TypeId} {f off : Nat} (hf : fieldOff P s f = some off) (a : Addr) (w : World) : (Instr.fieldAt s (.pointer (some a)) f).run P w = .ok (.pointer (some (a.add off))) w := by
  unfold fieldOff at hf
  split at hf
  · rename_i fs hu
    split at hf
    · rename_i g hg
      split at hf
      · rename_i i hi
        split at hf
        · cases hf
        · rename_i hne
          simp only [Option.some.injEq] at hf
          subst hf
          simp [Instr.fieldAt, run_underlying hu, hg, Instr.sureAddr, fieldPlace, sizeOf, run_typeInfo hi, hne]
      · cases hf
    · cases hf
  · cases hf

theorem p_fieldAddr {s : TypeId} {x : Operand} {f off B j j' : Nat} (hx : ev F x = some (.pointer (some ⟨B, j, none⟩))) (hf : fieldOff P s f = some off) (hj : j' = j + off) : Pure ds P n w0 ⟨dst, .fieldAddr s x f, ty, pos, after, guard⟩ F H (.pointer (some ⟨B, j', none⟩)) := fun a w ha _ => by
  subst hj
  have e : Addr.add ⟨B, j, none⟩ off = ⟨B, j + off, none⟩ := by unfold Addr.add; split <;> simp_all
  simp [execOp, ha.eval hx, run_fieldAt hf, e]

theorem p_load {t : TypeId} {x : Operand} {i B j : Nat} {cs : List Value} {T : TypeId} {v : Value} (hx : ev F x = some (.pointer (some ⟨B, j, none⟩))) (hi : H[i]? = some (box B cs T)) (ht : shp P t = some none) (hv : cs[j]? = some v) :
    Pure ds P n w0 ⟨dst, .load t x, ty, pos, after, guard⟩ F H v := fun a w ha hw => by
  have hc := box_cell (hw.at hi).here j
  rw [hv] at hc
  simp [execOp, ha.eval hx, Instr.loadAt, Instr.sureAddr, run_loadVar_one ht hc]

theorem p_load_agg {t : TypeId} {x : Operand} {i B j m : Nat} {cs vs : List Value} {T : TypeId} (hx : ev F x = some (.pointer (some ⟨B, j, none⟩))) (hi : H[i]? = some (box B cs T)) (ht : shp P t = some (some m)) (hv : (cs.drop j).take m = vs) (hl : vs.length = m) :
    Pure ds P n w0 ⟨dst, .load t x, ty, pos, after, guard⟩ F H (.agg vs.toArray) := fun a w ha hw => by
  have hc : ∀ q, q < m → w.cell? (Addr.add ⟨B, j, none⟩ q) = vs[q]? := fun q hq => by
    rw [box_cell_add (hw.at hi).here, ← hv]
    simp [hq]
  simp [execOp, ha.eval hx, Instr.loadAt, Instr.sureAddr, run_loadVar_agg ht hl hc]

theorem run_storeVar_one {t : TypeId} {a : Addr} {v u : Value} {w : World} (hs : sizeIs P t = some 1) (hv : one1 v = true) (hc : w.cell? a = some u) (hf : w.frozen? a = false) : (storeVar t a v).run P w = .ok () (w.setCell a v) := by
  unfold sizeIs at hs
  simp only [Option.map_eq_some_iff] at hs
  obtain ⟨i, hi, h1⟩ := hs
  have hcs : v.cells = #[v] := by cases v <;> first | rfl | (simp [one1] at hv)
  simp [storeVar, sizeOf, run_typeInfo hi, hcs, h1, storeCells, Addr.add, run_store hv hc hf]

theorem o_store {t : TypeId} {x y : Operand} {i B j : Nat} {cs cs' : List Value} {T : TypeId} {v : Value} (hx : ev F x = some (.pointer (some ⟨B, j, none⟩))) (hy : ev F y = some v) (hi : H[i]? = some (box B cs T)) (ht : sizeIs P t = some 1) (hv : one1 v = true)
    (hj : Nat.blt j cs.length = true) (hc : cs' = cs.set j v) (h : SO r ds P n w0 ops Q rest F (H.set i (box B cs' T))) : SO r ds P n w0 ops Q (⟨none, .store t x y, ty, pos, after, none⟩ :: rest) F H := fun a w ha hw =>
  wpL_plain rfl (fun _ h => by cases h) fun K hK => by
    subst hc
    have hj' : j < cs.length := by simpa [Nat.blt_eq] using hj
    have hc := box_cell (hw.at hi).here j
    rw [List.getElem?_eq_getElem hj'] at hc
    have hrun : (execOp a.eval ⟨none, .store t x y, ty, pos, after, none⟩).run P w = .ok .skip (w.setCell ⟨B, j, none⟩ v) := by
      simp [execOp, ha.eval hx, ha.eval hy, Instr.storeAt, Instr.sureAddr, run_storeVar_one ht hv hc (box_frozen (hw.at hi).here j)]
    unfold Oper.wp
    rw [hrun]
    exact hK _ _ (h _ _ ha (hw.store hi v))
end
end Go.Sx

/- Arithmetic, comparisons, calls, loops, regions that draw their order. -/
namespace Go.Sx
open Go.RowKit

section
variable {P : Program} {n : Nat} {w0 : World} {r : Option Nat} {ds : List Deferred} {Q : Exit → Act → World → Prop} {F F' : List (Nat × Value)} {H H' : List Ent} {ops : Array Oper}
variable {ty : TypeId} {pos : String} {after : Array Edge} {guard : Option (Nat × Bool)} {dst : Option Tmp} {rest : List Oper} {d : Nat} {tx tY : TypeId} {x y : Operand} {k : IntKind} {p q : Int}

/-! ### Integers -/
theorem wrap_i64 {z : Int} (h : -9223372036854775808 ≤ z ∧ z ≤ 9223372036854775807) : IntKind.i64.wrap z = z := by
  simp [IntKind.wrap, IntKind.bits, IntKind.signed]; omega

theorem p_add (hx : ev F x = some (.int k p)) (hy : ev F y = some (.int k q)) : Pure ds P n w0 ⟨dst, .binOp .add tx x y tY, ty, pos, after, guard⟩ F H (.int k (k.wrap (p + q))) := fun a w ha _ => by
  simp [execOp, ha.eval hx, ha.eval hy, eqGuard, binOp, Op.intArith]
theorem p_sub (hx : ev F x = some (.int k p)) (hy : ev F y = some (.int k q)) : Pure ds P n w0 ⟨dst, .binOp .sub tx x y tY, ty, pos, after, guard⟩ F H (.int k (k.wrap (p - q))) := fun a w ha _ => by
  simp [execOp, ha.eval hx, ha.eval hy, eqGuard, binOp, Op.intArith]
theorem p_mul (hx : ev F x = some (.int k p)) (hy : ev F y = some (.int k q)) : Pure ds P n w0 ⟨dst, .binOp .mul tx x y tY, ty, pos, after, guard⟩ F H (.int k (k.wrap (p * q))) := fun a w ha _ => by
  simp [execOp, ha.eval hx, ha.eval hy, eqGuard, binOp, Op.intArith]
theorem p_addb (hx : ev F x = some (.int .i64 p)) (hy : ev F y = some (.int .i64 q)) (hb : -9223372036854775808 ≤ p + q ∧ p + q ≤ 9223372036854775807) : Pure ds P n w0 ⟨dst, .binOp .add tx x y tY, ty, pos, after, guard⟩ F H (.int .i64 (p + q)) := by
  have := p_add (P := P) (n := n) (w0 := w0) (ds := ds) (dst := dst) (tx := tx) (tY := tY) (ty := ty) (pos := pos) (after := after) (guard := guard) (H := H) hx hy
  rwa [wrap_i64 hb] at this
theorem p_subb (hx : ev F x = some (.int .i64 p)) (hy : ev F y = some (.int .i64 q)) (hb : -9223372036854775808 ≤ p - q ∧ p - q ≤ 9223372036854775807) : Pure ds P n w0 ⟨dst, .binOp .sub tx x y tY, ty, pos, after, guard⟩ F H (.int .i64 (p - q)) := by
  have := p_sub (P := P) (n := n) (w0 := w0) (ds := ds) (dst := dst) (tx := tx) (tY := tY) (ty := ty) (pos := pos) (after := after) (guard := guard) (H := H) hx hy
  rwa [wrap_i64 hb] at this
theorem p_mulb (hx : ev F x = some (.int .i64 p)) (hy : ev F y = some (.int .i64 q)) (hb : -9223372036854775808 ≤ p * q ∧ p * q ≤ 9223372036854775807) : Pure ds P n w0 ⟨dst, .binOp .mul tx x y tY, ty, pos, after, guard⟩ F H (.int .i64 (p * q)) := by
  have := p_mul (P := P) (n := n) (w0 := w0) (ds := ds) (dst := dst) (tx := tx) (tY := tY) (ty := ty) (pos := pos) (after := after) (guard := guard) (H := H) hx hy
  rwa [wrap_i64 hb] at this
theorem p_quo (hx : ev F x = some (.int k p)) (hy : ev F y = some (.int k q)) (h0 : q ≠ 0) : Pure ds P n w0 ⟨dst, .binOp .quo tx x y tY, ty, pos, after, guard⟩ F H (.int k (k.wrap (p.tdiv q))) := fun a w ha _ => by
  simp [execOp, ha.eval hx, ha.eval hy, eqGuard, binOp, Op.intDiv, h0]
theorem p_rem (hx : ev F x = some (.int k p)) (hy : ev F y = some (.int k q)) (h0 : q ≠ 0) : Pure ds P n w0 ⟨dst, .binOp .rem tx x y tY, ty, pos, after, guard⟩ F H (.int k (p.tmod q)) := fun a w ha _ => by
  simp [execOp, ha.eval hx, ha.eval hy, eqGuard, binOp, Op.intDiv, h0]
theorem p_eq (hx : ev F x = some (.int k p)) (hy : ev F y = some (.int k q)) : Pure ds P n w0 ⟨dst, .binOp .eql tx x y tY, ty, pos, after, guard⟩ F H (.bool (p == q)) := fun a w ha _ => by
  simp [execOp, ha.eval hx, ha.eval hy, eqGuard, binOp, Op.intCmp]
theorem p_ne (hx : ev F x = some (.int k p)) (hy : ev F y = some (.int k q)) : Pure ds P n w0 ⟨dst, .binOp .neq tx x y tY, ty, pos, after, guard⟩ F H (.bool (p != q)) := fun a w ha _ => by
  simp [execOp, ha.eval hx, ha.eval hy, eqGuard, binOp, Op.intCmp]
theorem p_lt (hx : ev F x = some (.int k p)) (hy : ev F y = some (.int k q)) : Pure ds P n w0 ⟨dst, .binOp .lss tx x y tY, ty, pos, after, guard⟩ F H (.bool (decide (p < q))) := fun a w ha _ => by
  simp [execOp, ha.eval hx, ha.eval hy, eqGuard, binOp, Op.intCmp]
theorem p_le (hx : ev F x = some (.int k p)) (hy : ev F y = some (.int k q)) : Pure ds P n w0 ⟨dst, .binOp .leq tx x y tY, ty, pos, after, guard⟩ F H (.bool (decide (p ≤ q))) := fun a w ha _ => by
  simp [execOp, ha.eval hx, ha.eval hy, eqGuard, binOp, Op.intCmp]
theorem p_gt (hx : ev F x = some (.int k p)) (hy : ev F y = some (.int k q)) : Pure ds P n w0 ⟨dst, .binOp .gtr tx x y tY, ty, pos, after, guard⟩ F H (.bool (decide (q < p))) := fun a w ha _ => by
  simp [execOp, ha.eval hx, ha.eval hy, eqGuard, binOp, Op.intCmp]
theorem p_ge (hx : ev F x = some (.int k p)) (hy : ev F y = some (.int k q)) : Pure ds P n w0 ⟨dst, .binOp .geq tx x y tY, ty, pos, after, guard⟩ F H (.bool (decide (q ≤ p))) := fun a w ha _ => by
  simp [execOp, ha.eval hx, ha.eval hy, eqGuard, binOp, Op.intCmp]
theorem p_not {b : Bool} (hx : ev F x = some (.bool b)) : Pure ds P n w0 ⟨dst, .unOp .not tx x, ty, pos, after, guard⟩ F H (.bool (!b)) := fun a w ha _ => by
  simp [execOp, ha.eval hx, Op.unary]
theorem p_eqBool {b c : Bool} (hx : ev F x = some (.bool b)) (hy : ev F y = some (.bool c)) (hu : P.underlying tx = some .bool) : Pure ds P n w0 ⟨dst, .binOp .eql tx x y tY, ty, pos, after, guard⟩ F H (.bool (b == c)) := fun a w ha _ => by
  have h : (Op.equal tx (.bool b) (.bool c)).run P w = .ok (b == c) w := by
    show ((Go.underlying tx).bind _).run P w = _
    exact (run_bind (P := P) (Go.underlying tx) _ w).trans (by rw [run_underlying hu]; rfl)
  simp [execOp, ha.eval hx, ha.eval hy, eqGuard, binOp, h]

/-! ### Calls -/
/-- The call returns v, and nothing that was there is changed. -/
def Fn0 (P : Program) (f : FuncId) (args : List Value) (Pre : World → Prop) (v : Value) : Prop :=
  ∀ w, Pre w → Calls P f args.toArray w (fun e w' => e = .returned v ∧ Below w.heap.size w w')

/-- The call returns a value with memory of its own: what it is made of (p), where that lies (S). -/
def FnM (P : Program) (f : FuncId) (args : List Value) (Pre : World → Prop) (π : Type) (val : π → Value) (A : π → (Nat → Prop) → World → Prop) : Prop :=
  ∀ w, Pre w → Calls P f args.toArray w (fun e w' => ∃ p S, e = .returned (val p) ∧ Below w.heap.size w w' ∧ (∀ b, S b → w.heap.size ≤ b ∧ b < w'.heap.size) ∧ A p S w')

theorem HeapIs.below {w w' : World} (h : HeapIs w0 H w) (hb : Below w.heap.size w w') : HeapIs w0 H w' :=
  ⟨⟨hb.os.trans h.same.os, hb.tape.trans h.same.tape, hb.output.trans h.same.output⟩, Nat.le_trans h.size hb.size,
    fun e he => ⟨(h.good e he).stable, fun b hb' => Nat.lt_of_lt_of_le ((h.good e he).bound b hb') hb.size, (h.good e he).stable w w' (fun b hb' => hb.block b ((h.good e he).bound b hb')) (h.good e he).here⟩, h.apart⟩

theorem HeapIs.belowNew {w w' : World} (h : HeapIs w0 H w) (hb : Below w.heap.size w w') {S : Nat → Prop} {A : World → Prop} (hS : ∀ b, S b → w.heap.size ≤ b ∧ b < w'.heap.size) (hst : ∀ w1 w2, Agree S w1 w2 → A w1 → A w2) (hA : A w') : HeapIs w0 (⟨S, A⟩ :: H) w' := by
  have h' := h.below hb
  refine ⟨h'.same, h'.size, ?_, List.pairwise_cons.2 ⟨fun e he b hb1 hb2 => ?_, h'.apart⟩⟩
  · intro e he
    rcases List.mem_cons.1 he with rfl | he
    · exact ⟨hst, fun b hb => (hS b hb).2, hA⟩
    · exact h'.good e he
  · have := (h.good e he).bound b hb2
    have := (hS b hb1).1
    omega

theorem run_call {f : FuncId} {fn : Func} {c : Code} {args : Array Operand} {ats : Array TypeId} {vs : List Value} {a : Act} {w : World} (ha : Ok n ds F a) (hv : evs F args.toList = some vs) (hf : P.funcs[f]? = some fn) (hb : fn.body = some c) (hname : (fn.name == "runtime.NumGoroutine") = false) :
    (execOp a.eval ⟨dst, .call { callee := .value (.func f), args := args, argTypes := ats }, ty, pos, after, guard⟩).run P w = .ok (.enter f vs.toArray) w := by
  have h1 : args.map a.eval = vs.toArray := by
    rw [← ha.evals hv]; apply Array.ext'; simp
  have h2 : a.eval (.func f) = .func (.func f) #[] #[] := rfl
  have h3 : (callFunc f vs.toArray).run P w = .ok (.enter f vs.toArray) w := by
    have hname' : fn.name ≠ "runtime.NumGoroutine" := by intro e; rw [e] at hname; simp at hname
    simp [callFunc, program, Sem.run, hf, hb, hname']
  simp [execOp, resolve, h1, h2, Deferred.ofValue, invoke, h3]

/-- A function of the program with a body, by its number. -/
def HasFn (P : Program) (f : FuncId) : Prop := ∃ fn c, P.funcs[f]? = some fn ∧ fn.body = some c ∧ (fn.name == "runtime.NumGoroutine") = false

theorem o_call0 {f : FuncId} {args : Array Operand} {ats : Array TypeId} {vs : List Value} {Pre : World → Prop} {v : Value} (hv : evs F args.toList = some vs) (hf : Fn0 P f vs Pre v) (hP : HasFn P f) (hpre : ∀ w, HeapIs w0 H w → Pre w) (hn : Nat.blt d n = true)
    (h : SO r ds P n w0 ops Q rest ((d, v) :: F) H) : SO r ds P n w0 ops Q (⟨some d, .call { callee := .value (.func f), args := args, argTypes := ats }, ty, pos, after, none⟩ :: rest) F H := fun a w ha hw =>
  wpL_plain rfl (fun _ h => by cases h) fun K hK => by
    obtain ⟨fn, c, h1, h2, h3⟩ := hP
    unfold Oper.wp
    rw [run_call ha hv h1 h2 h3]
    simp only [Oper.upon]
    refine (hf w (hpre w hw)).mono ?_
    rintro e w' ⟨rfl, hb⟩
    exact hK _ _ (h _ _ (ha.put hn _) (hw.below hb))

theorem o_callM {f : FuncId} {args : Array Operand} {ats : Array TypeId} {vs : List Value} {Pre : World → Prop} {π : Type} {val : π → Value} {A : π → (Nat → Prop) → World → Prop} (hv : evs F args.toList = some vs) (hf : FnM P f vs Pre π val A) (hP : HasFn P f) (hpre : ∀ w, HeapIs w0 H w → Pre w) (hn : Nat.blt d n = true)
    (hst : ∀ p S w1 w2, Agree S w1 w2 → A p S w1 → A p S w2) (h : ∀ p S, SO r ds P n w0 ops Q rest ((d, val p) :: F) (⟨S, A p S⟩ :: H)) :
    SO r ds P n w0 ops Q (⟨some d, .call { callee := .value (.func f), args := args, argTypes := ats }, ty, pos, after, none⟩ :: rest) F H := fun a w ha hw =>
  wpL_plain rfl (fun _ h => by cases h) fun K hK => by
    obtain ⟨fn, c, h1, h2, h3⟩ := hP
    unfold Oper.wp
    rw [run_call ha hv h1 h2 h3]
    simp only [Oper.upon]
    refine (hf w (hpre w hw)).mono ?_
    rintro e w' ⟨p, S, rfl, hb, hS, hR⟩
    exact hK _ _ (h p S _ _ (ha.put hn _) (hw.belowNew hb hS (hst p S) hR))

/-- A call behind a guard that says yes. -/
theorem o_call0_guarded {f : FuncId} {args : Array Operand} {ats : Array TypeId} {vs : List Value} {Pre : World → Prop} {v : Value} {g : Nat} {want : Bool} (hv : evs F args.toList = some vs) (hf : Fn0 P f vs Pre v) (hP : HasFn P f) (hpre : ∀ w, HeapIs w0 H w → Pre w) (dg : Nat) (hdg : ((ops[g]?).bind (·.dst)) = some dg)
    (hb : lk F dg = some (.bool want)) (hn : Nat.blt d n = true)
    (h : SO r ds P n w0 ops Q rest ((d, v) :: F) H) : SO r ds P n w0 ops Q (⟨some d, .call { callee := .value (.func f), args := args, argTypes := ats }, ty, pos, after, some (g, want)⟩ :: rest) F H := fun a w ha hw =>
  wpL_step (fun _ h => by cases h) fun K hK => by
    have hw' : Region.wanted (⟨some d, .call { callee := .value (.func f), args := args, argTypes := ats }, ty, pos, after, some (g, want)⟩ : Oper) (yielded ops a.tmps) = true := by
      simp [Region.wanted, yielded, hdg, ha.knows dg _ hb]
    rw [if_pos hw']
    obtain ⟨fn, c, h1, h2, h3⟩ := hP
    unfold Oper.wp
    rw [run_call ha hv h1 h2 h3]
    simp only [Oper.upon]
    refine (hf w (hpre w hw)).mono ?_
    rintro e w' ⟨rfl, hb⟩
    exact hK _ _ (h _ _ (ha.put hn _) (hw.below hb))

/-! ### What was there when the call began -/
def base (w0 : World) : Ent := ⟨fun b => b < w0.heap.size, fun w => ∀ b, b < w0.heap.size → w.heap[b]? = w0.heap[b]?⟩

theorem HeapIs.begin (w0 : World) : HeapIs w0 [base w0] w0 :=
  ⟨⟨rfl, rfl, rfl⟩, Nat.le_refl _, fun e he => by
    rcases List.mem_singleton.1 he with rfl
    exact ⟨fun w1 w2 ha hA b hb => (ha b hb).trans (hA b hb), fun b hb => hb, fun b _ => rfl⟩, List.pairwise_singleton _ _⟩

theorem HeapIs.toBelow {w : World} (h : HeapIs w0 H w) {i : Nat} (hi : H[i]? = some (base w0)) : Below w0.heap.size w0 w :=
  ⟨h.same.os, h.same.tape, h.same.output, h.size, fun k hk => (h.at hi).here k hk⟩

/-! ### Loops -/
theorem wpC_loop {body : Code} (I : Nat → Act → World → Prop) {a : Act} {w : World} (m0 : Nat) (h0 : I m0 a w) (round : ∀ m a w, I m a w → wpC r P body (Exit.then (fun a' w' => ∃ m', m' < m ∧ I m' a' w') Q) a w) : wpC r P (.loop body) Q a w := by
  cases r with
  | none =>
    intro b k cs
    have key : ∀ m a w, I m a w → ∃ e a' w', Q e a' w' ∧ Arrives P (lone (b.at a (.code body :: .inLoop body :: k)) cs w) b k cs e a' w' := by
      intro m
      induction m using Nat.strongRecOn with
      | _ m ih =>
        intro a w h1
        obtain ⟨e, a₁, w₁, hq, harr⟩ := round m a w h1 b (.inLoop body :: k) cs
        cases e with
        | normal =>
          obtain ⟨m', hlt, h1'⟩ := hq
          obtain ⟨e₂, a₂, w₂, hq₂, harr₂⟩ := ih m' hlt a₁ w₁ h1'
          exact ⟨e₂, a₂, w₂, hq₂, .of_steps (Steps.trans harr (.one step_inLoop)) harr₂⟩
        | exit id => exact ⟨_, a₁, w₁, hq, .pass (x := .inLoop body) rfl (fun _ _ => .inl (by simp)) harr⟩
        | goto l => exact ⟨_, a₁, w₁, hq, .pass (x := .inLoop body) rfl (fun _ _ => .inl (by simp)) harr⟩
        | ret => exact ⟨_, a₁, w₁, hq, .pass (x := .inLoop body) rfl (fun _ _ => .inl (by simp)) harr⟩
        | panic ch => exact ⟨_, a₁, w₁, hq, .pass (x := .inLoop body) rfl (fun _ _ => .inl (by simp)) harr⟩
        | outgrown => exact ⟨_, a₁, w₁, hq, .pass (x := .inLoop body) rfl (fun _ _ => .inl (by simp)) harr⟩
    obtain ⟨e, a', w', hq, harr⟩ := key m0 a w h0
    exact ⟨e, a', w', hq, .of_steps (.one step_loop) harr⟩
  | some l =>
    intro b k cs hro hb hr
    have key : ∀ m a w, I m a w → ∃ e a' w', Q e a' w' ∧ ArrivesIn (Machine.fenced P (fenceOf l)) P (lone (b.atR a (.code body :: .inLoop body :: k)) cs w) b k cs e a' w' := by
      intro m
      induction m using Nat.strongRecOn with
      | _ m ih =>
        intro a w h1
        obtain ⟨e, a₁, w₁, hq, harr⟩ := round m a w h1 b (.inLoop body :: k) cs hro hb hr
        cases e with
        | normal =>
          obtain ⟨m', hlt, h1'⟩ := hq
          obtain ⟨e₂, a₂, w₂, hq₂, harr₂⟩ := ih m' hlt a₁ w₁ h1'
          exact ⟨e₂, a₂, w₂, hq₂, .of_steps (StepsIn.trans harr (.one (fenced_calm hb hr rfl) stepR_inLoop)) harr₂⟩
        | exit id => exact ⟨_, a₁, w₁, hq, .pass (x := .inLoop body) rfl (fun _ _ => .inl (by simp)) harr⟩
        | goto l => exact ⟨_, a₁, w₁, hq, .pass (x := .inLoop body) rfl (fun _ _ => .inl (by simp)) harr⟩
        | ret => exact ⟨_, a₁, w₁, hq, .pass (x := .inLoop body) rfl (fun _ _ => .inl (by simp)) harr⟩
        | panic ch => exact ⟨_, a₁, w₁, hq, .pass (x := .inLoop body) rfl (fun _ _ => .inl (by simp)) harr⟩
        | outgrown => exact ⟨_, a₁, w₁, hq, .pass (x := .inLoop body) rfl (fun _ _ => .inl (by simp)) harr⟩
    obtain ⟨e, a', w', hq, harr⟩ := key m0 a w h0
    exact ⟨e, a', w', hq, .of_steps (.one (fenced_calm hb hr rfl) stepR_loop) harr⟩
theorem wpC_mono {c : Code} {Q' : Exit → Act → World → Prop} {a : Act} {w : World} (hq : ∀ e a w, Q e a w → Q' e a w) (h : wpC r P c Q a w) : wpC r P c Q' a w := by
  cases r with
  | none => exact Code.wp_mono hq h
  | some l => exact Code.wpIn_mono hq h
theorem c_loop {body : Code} {St : Type} (FI : St → List (Nat × Value)) (HI : St → List Ent) (I : St → Prop) (μ : St → Nat) (s0 : St) (hI : I s0) (hF : Sub F (FI s0)) (hH : ∀ w, HeapIs w0 H w → HeapIs w0 (HI s0) w)
    (round : ∀ s, I s → ∀ K : Act → World → Prop, (∀ s' a w, I s' → μ s' < μ s → Ok n ds (FI s') a → HeapIs w0 (HI s') w → K a w) → SC r ds P n w0 (Exit.then K Q) body (FI s) (HI s)) : SC r ds P n w0 Q (.loop body) F H := by
  intro a w ha hw
  refine wpC_loop (fun m a w => ∃ s, I s ∧ Ok n ds (FI s) a ∧ HeapIs w0 (HI s) w ∧ μ s = m) (μ s0) ⟨s0, hI, ha.sub hF, hH w hw, rfl⟩ ?_
  rintro m a w ⟨s, h1, h2, h3, rfl⟩
  exact round s h1 (fun a' w' => ∃ m', m' < μ s ∧ ∃ s', I s' ∧ Ok n ds (FI s') a' ∧ HeapIs w0 (HI s') w' ∧ μ s' = m') (fun s' a w g1 g2 g3 g4 => ⟨_, g2, s', g1, g3, g4, rfl⟩) a w h2 h3

theorem q_round {St : Type} {FI : St → List (Nat × Value)} {HI : St → List Ent} {I : St → Prop} {μ : St → Nat} {m : Nat} {K : Act → World → Prop} (hK : ∀ s' a w, I s' → μ s' < m → Ok n ds (FI s') a → HeapIs w0 (HI s') w → K a w) (s' : St) (hI : I s') (hm : μ s' < m) (hF : Sub F (FI s')) (hH : ∀ w, HeapIs w0 H w → HeapIs w0 (HI s') w) :
    SQ ds n w0 (Exit.then K Q) .normal F H :=
  fun _ w ha hw => hK s' _ w hI hm (ha.sub hF) (hH w hw)

/-! ### A region that draws its order and leaves the heap alone -/
def SW (ds : List Deferred) (P : Program) (n : Nat) (w0 : World) (ops : Array Oper) (Q : Exit → Act → World → Prop) (l : List Oper) (F : List (Nat × Value)) (H : List Ent) : Prop :=
  ∀ a, Ok n ds F a → wpQuiet P ops (HeapIs w0 H) (fun a' => ∀ w', HeapIs w0 H w' → Q .normal a' w') l a

theorem c_draw {id : Nat} {l : List Oper} (hm : P.follows .mixedOrders = true) (hB : Region.lexB .any l.toArray = true) (h : SW ds P n w0 l.toArray Q l F H) : SC none ds P n w0 Q (.region id l.toArray true) F H := fun a w ha hw =>
  wp_region_quiet (C := HeapIs w0 H) hm hB (hw.drew _) (by simpa using h a ha)

theorem w_nil (h : SQ ds n w0 Q .normal F H) : SW ds P n w0 ops Q [] F H := fun a ha => wpQuiet_nil fun w' hw' => h a w' ha hw'

theorem w_pure {o : Oper} {v : Value} (hp : Pure ds P n w0 o F H v) (hg : o.guard = none) (hd : o.dst = some d) (hn : Nat.blt d n = true)
    (h : SW ds P n w0 ops Q rest ((d, v) :: F) H) : SW ds P n w0 ops Q (o :: rest) F H := fun a ha =>
  wpQuiet_step fun K hK => by
    rw [if_pos (by simp [Region.wanted, hg])]
    refine ⟨v, fun w hw => ?_, ?_⟩
    · unfold Oper.quietAt; rw [hp a w ha hw]; exact ⟨rfl, rfl⟩
    · rw [hd]; exact hK _ (h _ (ha.put hn v))

theorem w_call0 {f : FuncId} {args : Array Operand} {ats : Array TypeId} {vs : List Value} {Pre : World → Prop} {v : Value} (hv : evs F args.toList = some vs) (hf : Fn0 P f vs Pre v) (hP : HasFn P f) (hpre : ∀ w, HeapIs w0 H w → Pre w) (hn : Nat.blt d n = true)
    (h : SW ds P n w0 ops Q rest ((d, v) :: F) H) : SW ds P n w0 ops Q (⟨some d, .call { callee := .value (.func f), args := args, argTypes := ats }, ty, pos, after, none⟩ :: rest) F H := fun a ha =>
  wpQuiet_step fun K hK => by
    obtain ⟨fn, c, h1, h2, h3⟩ := hP
    rw [if_pos (by simp [Region.wanted])]
    refine ⟨v, fun w hw => ?_, hK _ (h _ (ha.put hn v))⟩
    unfold Oper.quietAt
    rw [run_call ha hv h1 h2 h3]
    exact ⟨rfl, (hf w (hpre w hw)).mono fun e w' ⟨he, hb⟩ => ⟨he, hw.below hb⟩⟩

theorem w_guard_no {o : Oper} {g : Nat} {want : Bool} {u : Value} (hg : o.guard = some (g, want)) (dg : Nat) (hdg : ((ops[g]?).bind (·.dst)) = some dg) (hb : lk F dg = some u) (hne : (match u with | .bool b => b == want | _ => false) = false)
    (hd : o.dst = some d) (hn : Nat.blt d n = true) (h : SW ds P n w0 ops Q rest ((d, undef) :: F) H) : SW ds P n w0 ops Q (o :: rest) F H := fun a ha =>
  wpQuiet_step fun K hK => by
    have hw' : Region.wanted o (yielded ops a.tmps) = false := by
      simp only [Region.wanted, hg, yielded, hdg, Option.bind_some, ha.knows dg _ hb]
      cases u <;> simp_all
    rw [if_neg (by simp [hw']), hd]
    exact hK _ (h _ (ha.put_skip hn))

theorem w_sub {l : List Oper} (hs : Sub F F') (h : SW ds P n w0 ops Q l F' H) : SW ds P n w0 ops Q l F H := fun a ha => h a (ha.sub hs)
theorem w_and {l : List Oper} {s p : Nat} {b : Bool} (m : Nat) (y : Bool) (e1 : b = true → SW ds P n w0 ops Q (l.drop m) ((p, .bool y) :: F) H → SW ds P n w0 ops Q l ((s, .bool true) :: F) H)
    (e0 : b = false → SW ds P n w0 ops Q (l.drop m) ((p, .bool false) :: F) H → SW ds P n w0 ops Q l ((s, .bool false) :: F) H) (k : SW ds P n w0 ops Q (l.drop m) ((p, .bool (b && y)) :: F) H) : SW ds P n w0 ops Q l ((s, .bool b) :: F) H := by
  cases b
  · exact e0 rfl k
  · exact e1 rfl k
theorem w_or {l : List Oper} {s p : Nat} {b : Bool} (m : Nat) (y : Bool) (e1 : b = false → SW ds P n w0 ops Q (l.drop m) ((p, .bool y) :: F) H → SW ds P n w0 ops Q l ((s, .bool false) :: F) H)
    (e0 : b = true → SW ds P n w0 ops Q (l.drop m) ((p, .bool true) :: F) H → SW ds P n w0 ops Q l ((s, .bool true) :: F) H) (k : SW ds P n w0 ops Q (l.drop m) ((p, .bool (b || y)) :: F) H) : SW ds P n w0 ops Q l ((s, .bool b) :: F) H := by
  cases b
  · exact e1 rfl k
  · exact e0 rfl k

theorem w_pure_guarded {o : Oper} {g : Nat} {want : Bool} {v : Value} (hp : Pure ds P n w0 o F H v) (hg : o.guard = some (g, want)) (dg : Nat) (hdg : ((ops[g]?).bind (·.dst)) = some dg)
    (hb : lk F dg = some (.bool want)) (hd : o.dst = some d) (hn : Nat.blt d n = true) (h : SW ds P n w0 ops Q rest ((d, v) :: F) H) : SW ds P n w0 ops Q (o :: rest) F H := fun a ha =>
  wpQuiet_step fun K hK => by
    have hy : yielded ops a.tmps g = some want := by simp [yielded, hdg, ha.knows dg _ hb]
    have hw' : Region.wanted o (yielded ops a.tmps) = true := by simp only [Region.wanted, hg, hy]; simp
    rw [if_pos hw']
    refine ⟨v, fun w hw => ?_, ?_⟩
    · unfold Oper.quietAt; rw [hp a w ha hw]; exact ⟨rfl, rfl⟩
    · rw [hd]; exact hK _ (h _ (ha.put hn v))
end
end Go.Sx

/- Slices: what is read, what is owned; index, load, len, literals, append. -/
namespace Go.Sx
open Go.RowKit

/-- An element type: how a datum lies in cells. -/
structure Ty (α : Type) where
  k : Nat
  enc : α → List Value
  len : ∀ d, (enc d).length = k

def tInt : Ty Int := ⟨1, fun z => [.int .i64 z], fun _ => rfl⟩

section
variable {α : Type}

/-- The cells of a row that begins at (b, o) are those of L. -/
def RowAt (T : Ty α) (w : World) (b o : Nat) (L : List α) : Prop :=
  ∀ i (h : i < L.length), ∀ j, j < T.k → w.cell? ⟨b, o + i * T.k + j, none⟩ = (T.enc L[i])[j]?

/-- A slice at address a, of length L.length and capacity cap, reads as L; its block is one of S. -/
def SlR (T : Ty α) (S : Nat → Prop) (w : World) (a : Option Addr) (cap : Nat) (L : List α) : Prop :=
  L.length ≤ cap ∧ L.length ≤ 140737488355328 ∧
  match a with
  | none => cap = 0
  | some x => (0 < cap → x.spot = none ∧ S x.block ∧ (∃ c ty fz, w.heap[x.block]? = some (.cells c ty fz) ∧ x.off + cap * T.k ≤ c.size)) ∧ RowAt T w x.block x.off L

/-- The same, and the block may be written. -/
def SlO (T : Ty α) (S : Nat → Prop) (w : World) (a : Option Addr) (cap : Nat) (L : List α) : Prop :=
  L.length ≤ cap ∧ L.length ≤ 140737488355328 ∧
  match a with
  | none => cap = 0
  | some x => x.spot = none ∧ S x.block ∧ (∃ c ty, w.heap[x.block]? = some (.cells c ty (0, 0)) ∧ x.off + cap * T.k ≤ c.size) ∧ RowAt T w x.block x.off L

/-- What can be read, wherever it lies. -/
def Rd (T : Ty α) (w : World) (a : Option Addr) (cap : Nat) (L : List α) : Prop := SlR T (fun b => b < w.heap.size) w a cap L

def own (T : Ty α) (S : Nat → Prop) (a : Option Addr) (cap : Nat) (L : List α) : Ent := ⟨S, fun w => SlO T S w a cap L⟩

theorem cell_agree {w w' : World} {b o : Nat} (h : w'.heap[b]? = w.heap[b]?) : w'.cell? ⟨b, o, none⟩ = w.cell? ⟨b, o, none⟩ := by simp [World.cell?, h]

theorem SlO.toR {T : Ty α} {S : Nat → Prop} {w : World} {a : Option Addr} {cap : Nat} {L : List α} (h : SlO T S w a cap L) : SlR T S w a cap L := by
  obtain ⟨h1, h2, h3⟩ := h
  refine ⟨h1, h2, ?_⟩
  cases a with
  | none => exact h3
  | some x => obtain ⟨g1, g2, ⟨c, ty, g3, g4⟩, g5⟩ := h3; exact ⟨fun _ => ⟨g1, g2, ⟨c, ty, _, g3, g4⟩⟩, g5⟩

theorem SlR.agree {T : Ty α} {S : Nat → Prop} {w w' : World} {a : Option Addr} {cap : Nat} {L : List α} (ha : Agree S w w') (h : SlR T S w a cap L) : SlR T S w' a cap L := by
  obtain ⟨h1, h2, h3⟩ := h
  refine ⟨h1, h2, ?_⟩
  cases a with
  | none => exact h3
  | some x =>
    obtain ⟨g, g5⟩ := h3
    refine ⟨fun h0 => ?_, fun i hi j hj => ?_⟩
    · obtain ⟨g1, g2, ⟨c, ty, fz, g3, g4⟩⟩ := g h0
      exact ⟨g1, g2, ⟨c, ty, fz, (ha _ g2).trans g3, g4⟩⟩
    · obtain ⟨_, g2, _⟩ := g (by omega)
      exact (cell_agree (ha _ g2)).trans (g5 i hi j hj)

theorem SlO.agree {T : Ty α} {S : Nat → Prop} {w w' : World} {a : Option Addr} {cap : Nat} {L : List α} (ha : Agree S w w') (h : SlO T S w a cap L) : SlO T S w' a cap L := by
  obtain ⟨h1, h2, h3⟩ := h
  refine ⟨h1, h2, ?_⟩
  cases a with
  | none => exact h3
  | some x =>
    obtain ⟨g1, g2, ⟨c, ty, g3, g4⟩, g5⟩ := h3
    have hb := ha _ g2
    exact ⟨g1, g2, ⟨c, ty, hb.trans g3, g4⟩, fun i hi j hj => (cell_agree hb).trans (g5 i hi j hj)⟩

theorem SlR.mono {T : Ty α} {S S' : Nat → Prop} {w : World} {a : Option Addr} {cap : Nat} {L : List α} (hS : ∀ b, S b → S' b) (h : SlR T S w a cap L) : SlR T S' w a cap L := by
  obtain ⟨h1, h2, h3⟩ := h
  refine ⟨h1, h2, ?_⟩
  cases a with
  | none => exact h3
  | some x => obtain ⟨g, g3⟩ := h3; exact ⟨fun h0 => ⟨(g h0).1, hS _ (g h0).2.1, (g h0).2.2⟩, g3⟩

theorem SlO.mono {T : Ty α} {S S' : Nat → Prop} {w : World} {a : Option Addr} {cap : Nat} {L : List α} (hS : ∀ b, S b → S' b) (h : SlO T S w a cap L) : SlO T S' w a cap L := by
  obtain ⟨h1, h2, h3⟩ := h
  refine ⟨h1, h2, ?_⟩
  cases a with
  | none => exact h3
  | some x => obtain ⟨g1, g2, g3⟩ := h3; exact ⟨g1, hS _ g2, g3⟩

theorem SlR.nonnil {T : Ty α} {S : Nat → Prop} {w : World} {a : Option Addr} {cap : Nat} {L : List α} (h : SlR T S w a cap L) (hl : 0 < L.length) : ∃ x, a = some x ∧ x.spot = none := by
  obtain ⟨h1, h2, h3⟩ := h
  cases a with
  | none => simp at h3; omega
  | some x => exact ⟨x, rfl, (h3.1 (by omega)).1⟩

theorem SlO.nil (T : Ty α) (w : World) : SlO T (fun _ => False) w none 0 ([] : List α) := ⟨by simp, by simp, rfl⟩
theorem SlR.nil (T : Ty α) (S : Nat → Prop) (w : World) : SlR T S w none 0 ([] : List α) := ⟨by simp, by simp, rfl⟩
theorem Rd.nil (T : Ty α) (w : World) : Rd T w none 0 ([] : List α) := SlR.nil T _ w

theorem Rd.below {T : Ty α} {w w' : World} {a : Option Addr} {cap : Nat} {L : List α} (h : Rd T w a cap L) (hb : ∀ b, b < w.heap.size → w'.heap[b]? = w.heap[b]?) (hs : w.heap.size ≤ w'.heap.size) : Rd T w' a cap L :=
  (h.agree hb).mono fun b hb => Nat.lt_of_lt_of_le hb hs

section
variable {P : Program} {n : Nat} {w0 : World} {r : Option Nat} {ds : List Deferred} {Q : Exit → Act → World → Prop} {F F' : List (Nat × Value)} {H H' : List Ent} {ops : Array Oper}
variable {ty : TypeId} {pos : String} {after : Array Edge} {guard : Option (Nat × Bool)} {dst : Option Tmp} {rest : List Oper} {d : Nat} {x y : Operand}
variable {T : Ty α} {a : Option Addr} {cap : Nat} {L : List α} {S : Nat → Prop}

/-- Out of an owned entry; out of what was there at the beginning. -/
theorem rd_own {i : Nat} (hi : H[i]? = some (own T S a cap L)) : ∀ w, HeapIs w0 H w → Rd T w a cap L := fun _ hw =>
  (SlO.toR (hw.at hi).here).mono (hw.at hi).bound
theorem rd_base {i : Nat} (hi : H[i]? = some (base w0)) (h : Rd T w0 a cap L) : ∀ w, HeapIs w0 H w → Rd T w a cap L := fun _ hw =>
  h.below (hw.at hi).here hw.size
theorem rd_nil : ∀ w, HeapIs w0 H w → Rd T w none 0 ([] : List α) := fun w _ => Rd.nil T w
theorem rd_ent {i : Nat} {A : World → Prop} (hi : H[i]? = some ⟨S, A⟩) (h : ∀ w, A w → SlR T S w a cap L) : ∀ w, HeapIs w0 H w → Rd T w a cap L := fun w hw =>
  (h w (hw.at hi).here).mono (hw.at hi).bound

/-! ### Reading -/
def ea (a : Option Addr) (m : Nat) : Addr := (a.getD default).add m

theorem ea_some {x : Addr} (hs : x.spot = none) (m : Nat) : ea (some x) m = ⟨x.block, x.off + m, none⟩ := by
  obtain ⟨b, o, s⟩ := x
  simp only at hs
  subst hs
  simp only [ea, Option.getD_some, Addr.add]
  split
  · rename_i e; subst e; rfl
  · rfl

theorem p_len_slice {len : Nat} {t e : TypeId} {ats : Array TypeId} (hx : ev F x = some (.slice a len cap)) (ha' : ats[0]? = some t) (hu : P.underlying t = some (.slice e)) :
    Pure ds P n w0 ⟨dst, .call { callee := .builtin .len, args := #[x], argTypes := ats }, ty, pos, after, guard⟩ F H (.int .i64 (len : Int)) := fun b w hb _ => by
  simp [execOp, resolve, invoke, builtin, Builtin.len_, hb.eval hx, ha', run_underlying hu, goInt]

theorem p_len_string {s : ByteArray} {t : TypeId} {ats : Array TypeId} (hx : ev F x = some (.string s)) (ha' : ats[0]? = some t) (hu : P.underlying t = some .string) :
    Pure ds P n w0 ⟨dst, .call { callee := .builtin .len, args := #[x], argTypes := ats }, ty, pos, after, guard⟩ F H (.int .i64 (s.size : Int)) := fun b w hb _ => by
  simp [execOp, resolve, invoke, builtin, Builtin.len_, hb.eval hx, ha', run_underlying hu, goInt]

theorem run_sizeOf {t : TypeId} {m : Nat} (h : sizeIs P t = some m) (w : World) : (sizeOf t).run P w = .ok m w := by
  unfold sizeIs at h
  simp only [Option.map_eq_some_iff] at h
  obtain ⟨i, hi, h1⟩ := h
  simp [sizeOf, run_typeInfo hi, h1]

theorem p_indexAddr {t e : TypeId} {k : IntKind} {i : Int} (hx : ev F x = some (.slice a L.length cap)) (hy : ev F y = some (.int k i)) (hr : ∀ w, HeapIs w0 H w → Rd T w a cap L) (hu : P.underlying t = some (.slice e)) (hs : sizeIs P e = some T.k)
    (h0 : 0 ≤ i) (h1 : i < (L.length : Int)) : Pure ds P n w0 ⟨dst, .indexAddr t x y, ty, pos, after, guard⟩ F H (.pointer (some (ea a (i.toNat * T.k)))) := fun b w hb hw => by
  obtain ⟨z, rfl, hz⟩ := (hr w hw).nonnil (by omega)
  simp [execOp, hb.eval hx, hb.eval hy, Instr.indexAt, asIntOf, run_underlying hu, run_sizeOf hs, h0, h1, ea]

theorem Rd.cell {w : World} {i j : Nat} (h : Rd T w a cap L) (hi : i < L.length) (hj : j < T.k) : w.cell? (Addr.add (ea a (i * T.k)) j) = (T.enc L[i])[j]? := by
  obtain ⟨z, rfl, hz⟩ := SlR.nonnil h (by omega)
  rw [ea_some hz]
  have e : Addr.add ⟨z.block, z.off + i * T.k, none⟩ j = ⟨z.block, z.off + i * T.k + j, none⟩ := by unfold Addr.add; split <;> simp_all
  rw [e]
  exact h.2.2.2 i hi j hj

theorem p_loadE1 {t : TypeId} {i : Nat} {v : Value} (hx : ev F x = some (.pointer (some (ea a (i * T.k))))) (hr : ∀ w, HeapIs w0 H w → Rd T w a cap L) (hi : i < L.length) (ht : shp P t = some none) (hk : T.enc L[i] = [v]) :
    Pure ds P n w0 ⟨dst, .load t x, ty, pos, after, guard⟩ F H v := fun b w hb hw => by
  have h1 : T.k = 1 := by have := T.len L[i]; rw [hk] at this; simpa using this.symm
  have hc := (hr w hw).cell hi (j := 0) (by omega)
  rw [hk] at hc
  have hc' : w.cell? (ea a (i * T.k)) = some v := by simpa [Addr.add] using hc
  simp [execOp, hb.eval hx, Instr.loadAt, Instr.sureAddr, run_loadVar_one ht hc']

theorem p_loadEn {t : TypeId} {i : Nat} {vs : List Value} (hx : ev F x = some (.pointer (some (ea a (i * T.k))))) (hr : ∀ w, HeapIs w0 H w → Rd T w a cap L) (hi : i < L.length) (ht : shp P t = some (some T.k)) (hk : T.enc L[i] = vs) :
    Pure ds P n w0 ⟨dst, .load t x, ty, pos, after, guard⟩ F H (.agg vs.toArray) := fun b w hb hw => by
  subst hk
  have hc := fun j hj => (hr w hw).cell hi (j := j) hj
  simp [execOp, hb.eval hx, Instr.loadAt, Instr.sureAddr, run_loadVar_agg ht (T.len _) hc]

/-! ### A literal of values -/
theorem zipIdx_foldl_set (l : List Value) : ∀ (s off : Nat) (cells : Array Value), (l.zipIdx s).foldl (fun cs (p : Value × Nat) => cs.setIfInBounds (off + p.2) p.1) cells = ((l.zipIdx s).foldl (fun cs (p : Value × Nat) => cs.set (off + p.2) p.1) cells.toList).toArray := by
  induction l with
  | nil => intros; simp
  | cons c l ih => intro s off cells; simp only [List.zipIdx_cons, List.foldl_cons]; rw [ih]; simp

theorem foldl_set_mid (l : List Value) : ∀ (s off : Nat) (pre mid post : List Value), pre.length = off + s → mid.length = l.length → (l.zipIdx s).foldl (fun cs (p : Value × Nat) => cs.set (off + p.2) p.1) (pre ++ mid ++ post) = pre ++ l ++ post := by
  induction l with
  | nil => intro s off pre mid post _ hm; simp at hm; subst hm; simp
  | cons c l ih =>
    intro s off pre mid post hp hm
    match mid, hm with
    | m :: mid, hm =>
      simp only [List.zipIdx_cons, List.foldl_cons]
      have e : (pre ++ m :: mid ++ post).set (off + s) c = (pre ++ [c]) ++ mid ++ post := by
        rw [← hp]; simp
      rw [e, ih (s + 1) off (pre ++ [c]) mid post (by simp; omega) (by simpa using hm)]
      simp

theorem fill_row (size : Nat) : ∀ (vs : List Value) (m : Nat) (done : List Value) (tail : List Value), (∀ v ∈ vs, v.cells.size = size) → done.length = m * size → tail.length = vs.length * size →
    Instr.fill (fun i => some (i * size, size)) (done ++ tail).toArray ((List.range' m vs.length).zip vs) = some (done ++ vs.flatMap (·.cells.toList)).toArray
  | [], m, done, tail, _, _, ht => by
    have : tail = [] := List.length_eq_zero_iff.1 (by simpa using ht)
    subst this; simp [Instr.fill]
  | v :: vs, m, done, tail, hv, hd, ht => by
    have h1 := hv v (by simp)
    simp only [List.length_cons, List.range'_succ, List.zip_cons_cons, Instr.fill]
    have hlen : (done ++ tail).length = m * size + (vs.length + 1) * size := by rw [List.length_append, hd, ht, List.length_cons]
    have hle : m * size + v.cells.size ≤ (done ++ tail).length := by rw [hlen, h1, Nat.add_mul]; omega
    rw [if_neg (by simp [h1]; simp [h1] at hle; omega)]
    have htail : tail = tail.take size ++ tail.drop size := (List.take_append_drop _ _).symm
    have hts : (tail.take size).length = size := by rw [List.length_take, ht]; simp [Nat.add_mul]
    have key : v.cells.zipIdx.foldl (fun cs (p : Value × Nat) => cs.setIfInBounds (m * size + p.2) p.1) (done ++ tail).toArray = ((done ++ v.cells.toList) ++ tail.drop size).toArray := by
      rw [← Array.foldl_toList, Array.toList_zipIdx, zipIdx_foldl_set]
      rw [show (done ++ tail).toArray.toList = done ++ tail.take size ++ tail.drop size by simp [List.append_assoc]]
      rw [foldl_set_mid v.cells.toList 0 (m * size) done (tail.take size) (tail.drop size) (by simpa using hd) (by rw [hts]; simpa using h1.symm)]
    rw [key, fill_row size vs (m + 1) (done ++ v.cells.toList) (tail.drop size) (fun u hu => hv u (by simp [hu])) (by simp [hd, h1, Nat.add_mul]) (by rw [List.length_drop, ht]; simp [Nat.add_mul])]
    simp [List.append_assoc]

theorem flat_len {k : Nat} : ∀ (L : List α) (f : α → List Value), (∀ d, (f d).length = k) → (L.flatMap f).length = L.length * k
  | [], _, _ => by simp
  | x :: L, f, h => by simp [flat_len L f h, h x, Nat.add_mul]; omega

theorem flat_get {k : Nat} (f : α → List Value) (h : ∀ d, (f d).length = k) : ∀ (L : List α) (i j : Nat) (hi : i < L.length), j < k → (L.flatMap f)[i * k + j]? = (f L[i])[j]?
  | x :: L, 0, j, _, hj => by simp [List.getElem?_append, h x, hj]
  | x :: L, i + 1, j, hi, hj => by
    have := flat_get f h L i j (by simpa using hi) hj
    simp only [List.flatMap_cons, List.getElem_cons_succ]
    rw [List.getElem?_append_right (by rw [h x, Nat.add_mul]; omega), h x, ← this]
    congr 1
    rw [Nat.add_mul]; omega

theorem HeapIs.push {w : World} (h : HeapIs w0 H w) (o : Obj) {A : World → Prop} (hst : ∀ w1 w2, Agree (fun b => b = w.heap.size) w1 w2 → A w1 → A w2) (hA : A { w with heap := w.heap.push o }) : HeapIs w0 (⟨fun b => b = w.heap.size, A⟩ :: H) { w with heap := w.heap.push o } := by
  refine HeapIs.belowNew (w' := { w with heap := w.heap.push o }) h ⟨rfl, rfl, rfl, by simp, fun k hk => ?_⟩ (fun b hb => by subst hb; simp) hst hA
  show (w.heap.push _)[k]? = _
  rw [Array.getElem?_push, if_neg (by omega)]

/-- A slice over a block that is new. -/
theorem SlO.fresh {w : World} {B cp : Nat} {cs : List Value} {e : TypeId} (hw : w.heap[B]? = some (.cells cs.toArray e (0, 0))) (tail : List Value) (hcs : cs = L.flatMap T.enc ++ tail) (hc : L.length ≤ cp) (hcl : cp * T.k ≤ cs.length) (hl : L.length ≤ 140737488355328) :
    SlO T (fun b => b = B) w (some ⟨B, 0, none⟩) cp L := by
  refine ⟨hc, hl, rfl, rfl, ⟨_, _, hw, by simpa using hcl⟩, fun i hi j hj => ?_⟩
  have : w.cell? ⟨B, 0 + i * T.k + j, none⟩ = cs[i * T.k + j]? := by simp [World.cell?, hw]
  rw [this, hcs]
  have hfl := flat_len L T.enc T.len
  have hlt : i * T.k + j < (L.flatMap T.enc).length := by
    rw [hfl]
    calc i * T.k + j < i * T.k + T.k := by omega
      _ = (i + 1) * T.k := by rw [Nat.add_mul]; omega
      _ ≤ L.length * T.k := Nat.mul_le_mul_right _ hi
  rw [List.getElem?_append_left hlt, flat_get T.enc T.len L i j hi hj]

def parts : List (Nat × Operand) → Nat → Bool
  | [], _ => true
  | (i, _) :: l, m => Nat.beq i m && parts l (m + 1)

theorem parts_map (f : Operand → Value) : ∀ (l : List (Nat × Operand)) (m : Nat), parts l m = true → l.map (fun p => (p.1, f p.2)) = (List.range' m l.length).zip (l.map (f ∘ (·.2)))
  | [], _, _ => rfl
  | (i, x) :: l, m, h => by
    simp only [parts, Bool.and_eq_true] at h
    have e := Nat.eq_of_beq_eq_true h.1
    subst e
    simp only [List.length_cons, List.range'_succ, List.map_cons, List.zip_cons_cons, parts_map f l _ h.2]
    rfl

/-- '[]T{x0, x1, ..}' (also the one that append's further arguments make). -/
theorem o_buildSlice {t e : TypeId} {ps : List (Nat × Operand)} {m : Nat} {z : List Value} {vs : List Value} (hps : parts ps 0 = true) (hm : ps.length = m) (hv : evs F (ps.map (·.2)) = some vs) (hL : vs.map (·.cells.toList) = L.map T.enc)
    (hu : P.underlying t = some (.slice e)) (hs : sizeIs P e = some T.k) (hk : 0 < T.k) (hz : zeroOf P e = some z) (hzl : z.length = T.k) (hsmall : m * T.k ≤ 16777216) (hn : Nat.blt d n = true)
    (h : ∀ S a, SO r ds P n w0 ops Q rest ((d, .slice a L.length L.length) :: F) (own T S a L.length L :: H)) : SO r ds P n w0 ops Q (⟨some d, .buildSlice t m ps.toArray, ty, pos, after, none⟩ :: rest) F H := fun b w hb hw =>
  wpL_plain rfl (fun _ h => by cases h) fun K hK => by
    subst hm
    have hlen : vs.length = ps.length := by rw [← List.length_map (f := (·.2)) (as := ps), ← hb.evals hv]; simp
    have hLl : L.length = ps.length := by rw [← hlen, ← List.length_map (f := T.enc) (as := L), ← hL]; simp
    have hcells : ∀ v ∈ vs, v.cells.size = T.k := fun v hv' => by
      have : v.cells.toList ∈ vs.map (·.cells.toList) := List.mem_map_of_mem hv'
      rw [hL] at this
      obtain ⟨x, _, hx⟩ := List.mem_map.1 this
      have := T.len x
      rw [hx] at this
      simpa using this
    have hflat : vs.flatMap (·.cells.toList) = L.flatMap T.enc := by
      rw [List.flatMap_def, List.flatMap_def, hL]
    unfold zeroOf at hz
    simp only [Option.map_eq_some_iff, Option.bind_eq_some_iff] at hz
    obtain ⟨zv, ⟨i, hi, hzv⟩, rfl⟩ := hz
    have hfill := fill_row T.k vs 0 [] ((List.range (ps.length * T.k)).map fun q => zv.cells[q % zv.cells.size]!) hcells (by simp) (by simp [hlen])
    simp only [List.nil_append] at hfill
    have hparts : (ps.toArray.map fun (p : Nat × Operand) => (p.1, b.eval p.2)).toList = (List.range' 0 vs.length).zip vs := by
      have e2 := hb.evals hv
      have e3 := parts_map b.eval ps 0 hps
      rw [List.map_map] at e2
      simp only [List.map_toArray]
      rw [hlen, e3]
      exact congrArg _ e2
    have hrun : (execOp b.eval ⟨some d, .buildSlice t ps.length ps.toArray, ty, pos, after, none⟩).run P w = .ok (.value (.slice (some ⟨w.heap.size, 0, none⟩) ps.length ps.length)) { w with heap := w.heap.push (.cells (L.flatMap T.enc).toArray e) } := by
      have hfill' : Instr.fill (fun i => some (i * T.k, T.k)) ((Array.range (ps.length * T.k)).map (fun q => zv.cells[q % zv.cells.size]!)) ((List.range' 0 vs.length).zip vs) = some (L.flatMap T.enc).toArray := by
        rw [← hflat, ← hfill]
        congr 1
        apply Array.ext'
        simp
      have hzv' : (zeroValue e).run P w = .ok zv w := by simp [zeroValue, run_typeInfo hi, hzv]
      have hb2 : (Instr.buildSlice t ps.length (ps.toArray.map fun (p : Nat × Operand) => (p.1, b.eval p.2))).run P w = .ok (.slice (some ⟨w.heap.size, 0, none⟩) ps.length ps.length) { w with heap := w.heap.push (.cells (L.flatMap T.enc).toArray e) } := by
        unfold Instr.buildSlice
        by_cases h0 : ps.length = 0
        · have hp0 : ps = [] := List.length_eq_zero_iff.1 h0
          have hv0 : vs = [] := List.length_eq_zero_iff.1 (by rw [hlen, h0])
          have hL0 : L = [] := List.length_eq_zero_iff.1 (by rw [hLl, h0])
          subst hp0; subst hv0; subst hL0
          have hz0 : ([] : List (Nat × Operand)).length * T.k = 0 := by simp
          simp only [run_bind, run_underlying hu, run_sizeOf hs, hz0, if_neg (show ¬ 0 > 2 ^ 24 by simp), if_true, run_pure]
          simp [Instr.fill, newRow, newObj, Sem.run]
          rw [show (Array.map (fun _ => (default : Value)) (Array.range 0)) = #[] from Array.ext' (by simp)]
        · have hne : ps.length * T.k ≠ 0 := by
            intro h; rcases Nat.mul_eq_zero.1 h with h | h <;> omega
          simp only [run_bind, run_underlying hu, run_sizeOf hs, if_neg (show ¬ ps.length * T.k > 2 ^ 24 by simp; omega), if_neg hne, hzv', run_pure, hparts, hfill', newRow, newObj, Sem.run]
      simp only [execOp, run_bind, run_pure] at hb2 ⊢
      rw [hb2]
    unfold Oper.wp
    rw [hrun]
    refine hK _ _ ?_
    rw [← hLl]
    refine h (fun c => c = w.heap.size) (some ⟨w.heap.size, 0, none⟩) _ _ (hb.put hn _) (hw.push _ (fun w1 w2 ha hA => SlO.agree ha hA) ?_)
    refine SlO.fresh (e := e) (cs := L.flatMap T.enc) ?_ [] (by simp) (Nat.le_refl _) (by rw [flat_len L T.enc T.len]; exact Nat.le_refl _) ?_
    · simp
    · rw [hLl]
      have := Nat.le_mul_of_pos_right ps.length hk
      omega

/-! ### append -/
theorem run_storeCells {b o : Nat} : ∀ (vs : List Value) (i : Nat) (w : World) (c : Array Value) (e : TypeId), w.heap[b]? = some (.cells c e (0, 0)) → (∀ v ∈ vs, one1 v = true) → o + i + vs.length ≤ c.size →
    ∃ w' c', (storeCells ⟨b, o, none⟩ vs i).run P w = .ok () w' ∧ w'.heap[b]? = some (.cells c' e (0, 0)) ∧ c'.size = c.size ∧ (∀ j, c'[j]? = if o + i ≤ j ∧ j < o + i + vs.length then vs[j - (o + i)]? else c[j]?) ∧ Same w w' ∧ w'.heap.size = w.heap.size ∧ ∀ k, k ≠ b → w'.heap[k]? = w.heap[k]?
  | [], i, w, c, e, hw, _, _ => ⟨w, c, rfl, hw, rfl, fun j => by simp; intro h1 h2; omega, ⟨rfl, rfl, rfl⟩, rfl, fun _ _ => rfl⟩
  | v :: vs, i, w, c, e, hw, hv, hl => by
    have had : Addr.add ⟨b, o, none⟩ i = ⟨b, o + i, none⟩ := by unfold Addr.add; split <;> simp_all
    simp only [List.length_cons] at hl
    have hlt : o + i < c.size := by omega
    have hc : w.cell? ⟨b, o + i, none⟩ = some c[o + i] := by simp [World.cell?, hw, hlt]
    have hf : w.frozen? ⟨b, o + i, none⟩ = false := by simp [World.frozen?, hw]
    have hw1 : (w.setCell ⟨b, o + i, none⟩ v).heap[b]? = some (.cells (c.setIfInBounds (o + i) v) e (0, 0)) := by simp [World.setCell, Array.getElem?_modify, hw]
    obtain ⟨w', c', h1, h2, h3, h4, h5, h6, h7⟩ := run_storeCells (b := b) (o := o) vs (i + 1) (w.setCell ⟨b, o + i, none⟩ v) (c.setIfInBounds (o + i) v) e hw1 (fun u hu => hv u (by simp [hu])) (by simp; omega)
    refine ⟨w', c', ?_, h2, by rw [h3]; simp, fun j => ?_, ⟨h5.os, h5.tape, h5.output⟩, by rw [h6]; simp [World.setCell], fun k hk => ?_⟩
    · unfold storeCells; rw [run_bind, had, run_store (hv v (by simp)) hc hf]; exact h1
    · rw [h4 j, List.length_cons]
      by_cases e2 : j = o + i
      · subst e2
        rw [if_neg (show ¬ (o + (i + 1) ≤ o + i ∧ o + i < o + (i + 1) + vs.length) by omega), if_pos (show o + i ≤ o + i ∧ o + i < o + i + (vs.length + 1) by omega)]
        simp [hlt]
      · by_cases e1 : o + (i + 1) ≤ j ∧ j < o + (i + 1) + vs.length
        · rw [if_pos e1, if_pos (show o + i ≤ j ∧ j < o + i + (vs.length + 1) by omega), show j - (o + i) = (j - (o + (i + 1))) + 1 by omega]; simp
        · rw [if_neg e1, if_neg (show ¬ (o + i ≤ j ∧ j < o + i + (vs.length + 1)) by omega), Array.getElem?_setIfInBounds_ne (by omega)]
    · rw [h7 k hk]; exact Below.heap_setCell _ _ _ _ hk

theorem run_firstCells {w : World} (h : Rd T w a cap L) : (Builtin.firstCells T.k L.length (.slice a L.length cap)).run P w = .ok (L.flatMap T.enc).toArray w := by
  cases a with
  | none =>
    have := h.2.2
    have h1 := h.1
    simp only at this
    have hL : L = [] := List.length_eq_zero_iff.1 (by omega)
    subst hL; simp [Builtin.firstCells]
  | some x =>
    obtain ⟨hlc, _, hg, hrow⟩ := h
    by_cases h00 : L.length = 0
    · have hL : L = [] := List.length_eq_zero_iff.1 h00
      subst hL
      simp [Builtin.firstCells, loadCells, loadCellsFrom]
    have hs := (hg (by omega)).1
    obtain ⟨bb, o, s⟩ := x
    simp only at hs hrow
    subst hs
    have := run_loadCellsFrom (P := P) (w := w) (a := ⟨bb, o, none⟩) (L.length * T.k) 0 #[] (L.flatMap T.enc) (flat_len L T.enc T.len) (fun q hq => by
      have hk : 0 < T.k := by rcases Nat.eq_zero_or_pos T.k with h0 | h0; · rw [h0] at hq; simp at hq
                              · exact h0
      have hd := Nat.div_add_mod q T.k
      have hm := Nat.mod_lt q hk
      have hi : q / T.k < L.length := by rw [Nat.div_lt_iff_lt_mul hk]; exact hq
      have had : Addr.add ⟨bb, o, none⟩ (0 + q) = ⟨bb, o + q, none⟩ := by unfold Addr.add; split <;> simp_all
      have e1 : q = q / T.k * T.k + q % T.k := by rw [Nat.mul_comm]; omega
      rw [had]
      have h1 := hrow (q / T.k) hi (q % T.k) hm
      have h2 := flat_get T.enc T.len L (q / T.k) (q % T.k) hi hm
      rw [← e1] at h2
      rw [h2, ← h1]
      congr 2
      omega)
    simp only [Builtin.firstCells, loadCells]
    rw [this]
    simp

theorem nextcap_le {need old : Nat} (h : old < need) : Builtin.nextslicecap need old ≤ need + need / 4 + 1200 := by
  unfold Builtin.nextslicecap
  split
  · omega
  · split
    · omega
    · have g : ∀ (r c : Nat), c < need → Builtin.growBy need r c ≤ need + need / 4 + 200 := by
        intro r
        induction r with
        | zero => intro c hc; simp [Builtin.growBy]; omega
        | succ r ih =>
          intro c hc
          simp only [Builtin.growBy]
          split
          · omega
          · rcases Nat.lt_or_ge (c + (c + 768) / 4) need with h1 | h1
            · exact ih _ h1
            · cases r with
              | zero => simp only [Builtin.growBy]; omega
              | succ r => simp only [Builtin.growBy]; rw [if_pos h1]; omega
      have := g 4 old h
      omega

/-- What is asked of an element type: cells, bytes, its zero value's cells. -/
def elemIs (P : Program) (e : TypeId) (k bytes : Nat) : Prop := ∃ i z, P.info? e = some i ∧ i.zero = some z ∧ i.size = k ∧ i.bytes = bytes ∧ z.cells.size = k

def elemQ (P : Program) (e : TypeId) : Option (Nat × Nat × Nat) := (P.info? e).bind fun i => i.zero.map fun z => (i.size, i.bytes, z.cells.size)
theorem elemIs_of {e : TypeId} {k b : Nat} (h : elemQ P e = some (k, b, k)) : elemIs P e k b := by
  unfold elemQ at h
  simp only [Option.bind_eq_some_iff, Option.map_eq_some_iff, Prod.mk.injEq] at h
  obtain ⟨i, hi, z, hz, h1, h2, h3⟩ := h
  exact ⟨i, z, hi, hz, h1, h2, h3⟩

theorem run_append {t tx e : TypeId} {d' : TypeDesc} {bytes : Nat} {w : World} {b : Option Addr} {cb : Nat} {M : List α} (hu : P.underlying t = some (.slice e)) (hux : P.underlying tx = some d') (hd : ∀ k, d' ≠ .int k) (he : elemIs P e T.k bytes) (hone : ∀ v ∈ M.flatMap T.enc, one1 v = true)
    (h : SlO T S w a cap L) (hS : ∀ c, S c → c < w.heap.size) (hM : Rd T w b cb M) (hk : 0 < T.k) (hsmall0 : L.length + M.length ≤ 140737488355328 ∧ (L.length + M.length + (L.length + M.length) / 4 + 1200) * (bytes + 1) ≤ 281474976710656) (type : TypeId) :
    ∃ w' a' cap' S', (Builtin.append_ #[t, tx] type #[.slice a L.length cap, .slice b M.length cb]).run P w = .ok (.slice a' (L ++ M).length cap') w' ∧ Same w w' ∧ w.heap.size ≤ w'.heap.size ∧
      (∀ c, S' c → S c ∨ (w.heap.size ≤ c ∧ c < w'.heap.size)) ∧ (∀ c, c < w.heap.size → ¬ S c → w'.heap[c]? = w.heap[c]?) ∧ SlO T S' w' a' cap' (L ++ M) := by
  obtain ⟨hsmall1, hsmall⟩ := hsmall0
  obtain ⟨i, z, hi, hz, hsz, hby, hzc⟩ := he
  have hsize : sizeIs P e = some T.k := by simp [sizeIs, hi, hsz]
  have hzeros : (match d' with | .int _ => true | _ => false) = false := by cases d' <;> first | rfl | exact absurd rfl (hd _)
  have hnew := fun (w1 : World) (h1 : Rd T w1 b cb M) => run_firstCells (P := P) h1
  have hmz : ∀ w1, (match d' with | .int _ => (pure true : Sem Bool) | _ => pure false).run P w1 = .ok false w1 := by intro w1; cases d' <;> first | rfl | exact absurd rfl (hd _)
  by_cases hroom : L.length + M.length ≤ cap
  · -- in place
    cases a with
    | none =>
      have hc0 : cap = 0 := h.2.2
      have hL : L = [] := List.length_eq_zero_iff.1 (by omega)
      have hM0 : M = [] := List.length_eq_zero_iff.1 (by omega)
      subst hL; subst hM0; subst hc0
      refine ⟨w, none, 0, S, ?_, ⟨rfl, rfl, rfl⟩, Nat.le_refl _, fun c hc => .inl hc, fun _ _ _ => rfl, by simpa using h⟩
      have h1 := hnew w hM
      simp at h1
      simp [Builtin.append_, run_underlying hu, run_underlying hux, run_sizeOf hsize, Builtin.lenOf, h1]
    | some x =>
      obtain ⟨g0, g1, gs, gS, ⟨c, ty', gc, gl⟩, grow⟩ := h
      obtain ⟨bb, o, s⟩ := x
      simp only at gs gS gc gl grow
      subst gs
      have gl' : o + cap * T.k ≤ c.size := gl
      have hfl := flat_len M T.enc T.len
      have had : Addr.add ⟨bb, o, none⟩ (L.length * T.k) = ⟨bb, o + L.length * T.k, none⟩ := by unfold Addr.add; split <;> simp_all
      have hle : (L.length + M.length) * T.k ≤ cap * T.k := Nat.mul_le_mul_right _ hroom
      rw [Nat.add_mul] at hle
      obtain ⟨w', c', h1, h2, h3, h4, h5, h6, h7⟩ := run_storeCells (P := P) (b := bb) (o := o + L.length * T.k) (M.flatMap T.enc) 0 w c ty' gc hone (by rw [hfl]; omega)
      refine ⟨w', some ⟨bb, o, none⟩, cap, S, ?_, h5, by omega, fun c hc => .inl hc, fun k _ hk => h7 k (fun e => hk (e ▸ gS)), ?_⟩
      · have hn := hnew w hM
        simp [Builtin.append_, run_underlying hu, run_underlying hux, run_sizeOf hsize, Builtin.lenOf, hn, hroom, had, h1]
      · have hb2 : (L.length + M.length + (L.length + M.length) / 4 + 1200) * 1 ≤ (L.length + M.length + (L.length + M.length) / 4 + 1200) * (bytes + 1) := Nat.mul_le_mul_left _ (by omega)
        refine ⟨by simpa using hroom, by simp; omega, rfl, gS, ⟨c', ty', h2, by show o + cap * T.k ≤ c'.size; omega⟩, fun i hi j hj => ?_⟩
        have hcell : w'.cell? ⟨bb, o + i * T.k + j, none⟩ = c'[o + i * T.k + j]? := by simp [World.cell?, h2]
        rw [hcell, h4]
        simp only [Nat.add_zero, hfl]
        by_cases hiL : i < L.length
        · have : i * T.k + j < L.length * T.k := by
            calc i * T.k + j < i * T.k + T.k := by omega
              _ = (i + 1) * T.k := by rw [Nat.add_mul]; omega
              _ ≤ L.length * T.k := Nat.mul_le_mul_right _ hiL
          rw [if_neg (by omega), List.getElem_append_left hiL]
          have := grow i hiL j hj
          simpa [World.cell?, gc] using this
        · simp only [List.length_append] at hi
          have hiM : i - L.length < M.length := by omega
          have e1 : i * T.k = L.length * T.k + (i - L.length) * T.k := by rw [← Nat.add_mul]; congr 1; omega
          have e2 : (i - L.length) * T.k + j < M.length * T.k := by
            calc (i - L.length) * T.k + j < (i - L.length) * T.k + T.k := by omega
              _ = (i - L.length + 1) * T.k := by rw [Nat.add_mul]; omega
              _ ≤ M.length * T.k := Nat.mul_le_mul_right _ hiM
          rw [if_pos (by omega), List.getElem_append_right (by omega), show o + i * T.k + j - (o + L.length * T.k) = (i - L.length) * T.k + j by omega]
          exact flat_get T.enc T.len M (i - L.length) j hiM hj
  · -- a new row
    have hlt : cap < L.length + M.length := by omega
    have hcap := nextcap_le hlt
    have hbig : ¬ (Builtin.nextslicecap (L.length + M.length) cap * i.bytes > 2 ^ 48) := by
      rw [hby]
      have h1 : Builtin.nextslicecap (L.length + M.length) cap * bytes ≤ (L.length + M.length + (L.length + M.length) / 4 + 1200) * (bytes + 1) := Nat.mul_le_mul hcap (by omega)
      have : (2 : Nat) ^ 48 = 281474976710656 := by decide
      omega
    have hb2 : (L.length + M.length + (L.length + M.length) / 4 + 1200) * 1 ≤ (L.length + M.length + (L.length + M.length) / 4 + 1200) * (bytes + 1) := Nat.mul_le_mul_left _ (by omega)
    let q : Question := .appendCap (L.length + M.length) cap e
    let nc := q.cut (w.tape w.drawn q)
    have hnc : L.length + M.length ≤ nc := by show _ ≤ _ + _; omega
    have hRL : Rd T w a cap L := (SlO.toR h).mono hS
    let w1 : World := { w with drawn := w.drawn + 1 }
    have f1 : (Builtin.firstCells T.k L.length (.slice a L.length cap)).run P w1 = .ok (L.flatMap T.enc).toArray w1 := run_firstCells (P := P) (SlR.agree (fun _ _ => rfl) hRL)
    have f2 : (Builtin.firstCells T.k M.length (.slice b M.length cb)).run P w1 = .ok (M.flatMap T.enc).toArray w1 := run_firstCells (P := P) (SlR.agree (fun _ _ => rfl) hM)
    let cells := (L.flatMap T.enc).toArray ++ (M.flatMap T.enc).toArray ++ Builtin.zeroCells z.cells (nc - (L.length + M.length))
    have hroomq : ∀ (m : Nat) (w2 : World), (askRoom m).run P w2 = .ok () w2 := by intro m w2; unfold askRoom; split <;> rfl
    have hzv : (zeroValue e).run P w1 = .ok z w1 := by simp [zeroValue, run_typeInfo hi, hz]
    refine ⟨{ w1 with heap := w1.heap.push (.cells cells e) }, some ⟨w.heap.size, 0, none⟩, nc, fun c => c = w.heap.size, ?_, ⟨rfl, rfl, rfl⟩, by simp [w1], fun c hc => .inr (by subst hc; simp [w1]), fun k hk _ => ?_, ?_⟩
    · have hch : (choose (.appendCap (L.length + M.length) cap e)).run P w = .ok nc w1 := rfl
      have hnr : ¬ (L.length + M.length ≤ cap) := hroom
      have h63 : ¬ (((L.length + M.length : Nat) : Int) > IntKind.i64.max ∧ (false = true ∨ i.bytes = 0)) := by
        rintro ⟨h1, _⟩
        have : IntKind.i64.max = 9223372036854775807 := rfl
        omega
      unfold Builtin.append_
      simp only [List.getElem?_toArray, List.getElem?_cons_zero, List.getElem?_cons_succ, run_bind, run_underlying hu, run_underlying hux, run_sizeOf hsize, run_pure, Builtin.lenOf]
      have hni : ∀ (X Y : Sem Value), (match d' with | .int _ => X | _ => Y) = Y := by intro X Y; cases d' <;> first | rfl | exact absurd rfl (hd _)
      simp only [Bool.false_eq_true, if_false, run_bind, run_pure, if_neg hnr, run_typeInfo hi, false_or, Bool.not_false, if_true]
      rw [if_neg (by rintro ⟨h1, _⟩; have : IntKind.i64.max = 9223372036854775807 := rfl; omega)]
      simp only [run_bind, run_typeInfo hi, if_neg hbig, run_pure]
      simp only [run_bind, run_pure, hch, hroomq, f1, f2, hzv, newRow, newObj, Sem.run]
      rw [List.length_append]
    · show (w.heap.push _)[k]? = _
      rw [Array.getElem?_push, if_neg (by omega)]
    · refine SlO.fresh (e := e) (cs := cells.toList) (by simp [w1]) (Builtin.zeroCells z.cells (nc - (L.length + M.length))).toList ?_ (by simpa using hnc) ?_ (by simp; omega)
      · simp [cells]
      · simp only [cells, Array.toList_append, List.length_append, Array.length_toList, flat_len L T.enc T.len, flat_len M T.enc T.len, Builtin.zeroCells, Array.size_map, Array.size_range, hzc]
        rw [← Nat.add_mul, ← Nat.add_mul]
        exact Nat.mul_le_mul_right _ (by omega)
end
end
end Go.Sx

/- append as a step; results; beginnings and ends of functions. -/
namespace Go.Sx
open Go.RowKit

section
variable {α : Type} {P : Program} {n : Nat} {w0 : World} {r : Option Nat} {ds : List Deferred} {Q : Exit → Act → World → Prop} {F F' : List (Nat × Value)} {H H' : List Ent} {ops : Array Oper}
variable {ty : TypeId} {pos : String} {after : Array Edge} {guard : Option (Nat × Bool)} {dst : Option Tmp} {rest : List Oper} {d : Nat} {x y : Operand}
variable {T : Ty α} {a : Option Addr} {cap : Nat} {L : List α} {S : Nat → Prop}

theorem o_append {t tx e : TypeId} {d' : TypeDesc} {bytes i : Nat} {b : Option Addr} {cb : Nat} {M : List α} (hx : ev F x = some (.slice a L.length cap)) (hy : ev F y = some (.slice b M.length cb)) (hi : H[i]? = some (own T S a cap L)) (hM : ∀ w, HeapIs w0 H w → Rd T w b cb M)
    (hu : P.underlying t = some (.slice e)) (hux : P.underlying tx = some d') (hd : ∀ k, d' ≠ .int k) (he : elemIs P e T.k bytes) (hone : ∀ z : α, ∀ v ∈ T.enc z, one1 v = true) (hk : 0 < T.k)
    (hsmall : L.length + M.length ≤ 140737488355328 ∧ (L.length + M.length + (L.length + M.length) / 4 + 1200) * (bytes + 1) ≤ 281474976710656) (hn : Nat.blt d n = true)
    (h : ∀ a' cap' S', SO r ds P n w0 ops Q rest ((d, .slice a' (L ++ M).length cap') :: F) (H.set i (own T S' a' cap' (L ++ M)))) :
    SO r ds P n w0 ops Q (⟨some d, .call { callee := .builtin .append, args := #[x, y], argTypes := #[t, tx] }, ty, pos, after, none⟩ :: rest) F H := fun c w hc hw =>
  wpL_plain rfl (fun _ h => by cases h) fun K hK => by
    obtain ⟨w', a', cap', S', h1, h2, h3, h4, h5, h6⟩ := run_append (P := P) hu hux hd he (fun v hv => by obtain ⟨z, _, hz⟩ := List.mem_flatMap.1 hv; exact hone z v hz) (hw.at hi).here (hw.at hi).bound (hM w hw) hk hsmall ty
    have hrun : (execOp c.eval ⟨some d, .call { callee := .builtin .append, args := #[x, y], argTypes := #[t, tx] }, ty, pos, after, none⟩).run P w = .ok (.value (.slice a' (L ++ M).length cap')) w' := by
      simp only [execOp, resolve, run_bind, run_pure, invoke, builtin, List.map_toArray, List.map_cons, List.map_nil, hc.eval hx, hc.eval hy]
      rw [h1]
    unfold Oper.wp
    rw [hrun]
    exact hK _ _ (h a' cap' S' _ _ (hc.put hn _) (hw.change hi h2 h3 h4 h5 (fun w1 w2 ha hA => SlO.agree ha hA) h6))

theorem HeapIs.ownNil {w : World} (h : HeapIs w0 H w) (T : Ty α) : HeapIs w0 (own T (fun _ => False) none 0 [] :: H) w :=
  ⟨h.same, h.size, fun e he => by
    rcases List.mem_cons.1 he with rfl | he
    · exact ⟨fun w1 w2 ha hA => SlO.agree (T := T) (a := none) (cap := 0) (L := []) ha hA, fun b hb => hb.elim, SlO.nil T w⟩
    · exact h.good e he, List.pairwise_cons.2 ⟨fun e _ b hb => hb.elim, h.apart⟩⟩

theorem o_ownNil (T : Ty α) {l : List Oper} (h : SO r ds P n w0 ops Q l F (own T (fun _ => False) none 0 [] :: H)) : SO r ds P n w0 ops Q l F H := fun a w ha hw => h a w ha (hw.ownNil T)
theorem c_ownNil (T : Ty α) {c : Code} (h : SC r ds P n w0 Q c F (own T (fun _ => False) none 0 [] :: H)) : SC r ds P n w0 Q c F H := fun a w ha hw => h a w ha (hw.ownNil T)

/-! ### Results -/
/-- What the result variables hold. -/
def Res1 (ds : List Deferred) (P : Program) (n : Nat) (w0 : World) (F : List (Nat × Value)) (H : List Ent) (r : ResultVar) (v : Value) : Prop :=
  ∀ a w, Ok n ds F a → HeapIs w0 H w → (match r with | .tmp t => (pure (a.tmps.getD t undef) : Sem Value) | .cell s t => (do loadVar t (← asAddr (a.tmps.getD s undef)))).run P w = .ok v w

theorem r_tmp {t : Nat} {v : Value} (h : lk F t = some v) : Res1 ds P n w0 F H (.tmp t) v := fun a w ha _ => by
  have := ha.knows t v h
  simp [Array.getD_eq_getD_getElem?, this]

theorem r_cell {s i B m : Nat} {t : TypeId} {cs : List Value} {T' : TypeId} (h : lk F s = some (.pointer (some ⟨B, 0, none⟩))) (hi : H[i]? = some (box B cs T')) (ht : shp P t = some (some m)) (hl : cs.length = m) : Res1 ds P n w0 F H (.cell s t) (.agg cs.toArray) := fun a w ha hw => by
  have := ha.knows s _ h
  have hc : ∀ q, q < m → w.cell? (Addr.add ⟨B, 0, none⟩ q) = cs[q]? := fun q _ => by rw [box_cell_add (hw.at hi).here]; simp
  simp [Array.getD_eq_getD_getElem?, this, asAddr, run_loadVar_agg ht hl hc]

theorem r_cell1 {s i B : Nat} {t : TypeId} {v : Value} {T' : TypeId} (h : lk F s = some (.pointer (some ⟨B, 0, none⟩))) (hi : H[i]? = some (box B [v] T')) (ht : shp P t = some none) : Res1 ds P n w0 F H (.cell s t) v := fun a w ha hw => by
  have := ha.knows s _ h
  have hc : w.cell? ⟨B, 0, none⟩ = some v := by rw [box_cell (hw.at hi).here]; rfl
  simp [Array.getD_eq_getD_getElem?, this, asAddr, run_loadVar_one ht hc]

def getR (tmps : Array Value) (r : ResultVar) : Sem Value := match r with
  | .tmp t => pure (tmps.getD t undef)
  | .cell a t => do loadVar t (← asAddr (tmps.getD a undef))

theorem results_eq (fn : Func) (tmps : Array Value) : results fn tmps = (do
  let vs ← fn.results.mapM (getR tmps)
  pure (if h : vs.size = 1 then vs[0] else .tuple vs)) := by
  unfold results
  congr 1

theorem run_results1 {fn : Func} {a : Act} {w : World} {r1 : ResultVar} {v1 : Value} (hr : fn.results = #[r1]) (h1 : (getR a.tmps r1).run P w = .ok v1 w) : (results fn a.tmps).run P w = .ok v1 w := by
  rw [results_eq, hr]; simp [h1]
theorem run_results2 {fn : Func} {a : Act} {w : World} {r1 r2 : ResultVar} {v1 v2 : Value} (hr : fn.results = #[r1, r2]) (h1 : (getR a.tmps r1).run P w = .ok v1 w) (h2 : (getR a.tmps r2).run P w = .ok v2 w) : (results fn a.tmps).run P w = .ok (.tuple #[v1, v2]) w := by
  rw [results_eq, hr]; simp [h1, h2]
theorem run_results3 {fn : Func} {a : Act} {w : World} {r1 r2 r3 : ResultVar} {v1 v2 v3 : Value} (hr : fn.results = #[r1, r2, r3]) (h1 : (getR a.tmps r1).run P w = .ok v1 w) (h2 : (getR a.tmps r2).run P w = .ok v2 w) (h3 : (getR a.tmps r3).run P w = .ok v3 w) :
    (results fn a.tmps).run P w = .ok (.tuple #[v1, v2, v3]) w := by
  rw [results_eq, hr]; simp [h1, h2, h3]
theorem run_results4 {fn : Func} {a : Act} {w : World} {r1 r2 r3 r4 : ResultVar} {v1 v2 v3 v4 : Value} (hr : fn.results = #[r1, r2, r3, r4]) (h1 : (getR a.tmps r1).run P w = .ok v1 w) (h2 : (getR a.tmps r2).run P w = .ok v2 w) (h3 : (getR a.tmps r3).run P w = .ok v3 w)
    (h4 : (getR a.tmps r4).run P w = .ok v4 w) : (results fn a.tmps).run P w = .ok (.tuple #[v1, v2, v3, v4]) w := by
  rw [results_eq, hr]; simp [h1, h2, h3, h4]

/-- What the results are, together. -/
def ResT (ds : List Deferred) (P : Program) (n : Nat) (w0 : World) (F : List (Nat × Value)) (H : List Ent) (fn : Func) (v : Value) : Prop :=
  ∀ a w, Ok n ds F a → HeapIs w0 H w → (results fn a.tmps).run P w = .ok v w

theorem rt1 {fn : Func} {r1 : ResultVar} {v1 : Value} (hr : fn.results = #[r1]) (h1 : Res1 ds P n w0 F H r1 v1) : ResT ds P n w0 F H fn v1 := fun a w ha hw => run_results1 hr (h1 a w ha hw)
theorem rt2 {fn : Func} {r1 r2 : ResultVar} {v1 v2 : Value} (hr : fn.results = #[r1, r2]) (h1 : Res1 ds P n w0 F H r1 v1) (h2 : Res1 ds P n w0 F H r2 v2) : ResT ds P n w0 F H fn (.tuple #[v1, v2]) := fun a w ha hw => run_results2 hr (h1 a w ha hw) (h2 a w ha hw)
theorem rt3 {fn : Func} {r1 r2 r3 : ResultVar} {v1 v2 v3 : Value} (hr : fn.results = #[r1, r2, r3]) (h1 : Res1 ds P n w0 F H r1 v1) (h2 : Res1 ds P n w0 F H r2 v2) (h3 : Res1 ds P n w0 F H r3 v3) : ResT ds P n w0 F H fn (.tuple #[v1, v2, v3]) := fun a w ha hw => run_results3 hr (h1 a w ha hw) (h2 a w ha hw) (h3 a w ha hw)
theorem rt4 {fn : Func} {r1 r2 r3 r4 : ResultVar} {v1 v2 v3 v4 : Value} (hr : fn.results = #[r1, r2, r3, r4]) (h1 : Res1 ds P n w0 F H r1 v1) (h2 : Res1 ds P n w0 F H r2 v2) (h3 : Res1 ds P n w0 F H r3 v3) (h4 : Res1 ds P n w0 F H r4 v4) : ResT ds P n w0 F H fn (.tuple #[v1, v2, v3, v4]) := fun a w ha hw => run_results4 hr (h1 a w ha hw) (h2 a w ha hw) (h3 a w ha hw) (h4 a w ha hw)

/-- What is asked at a function's end. -/
def End0 (w0 : World) (v : Value) : Ending → World → Prop := fun e w' => e = .returned v ∧ Below w0.heap.size w0 w'
def EndM (w0 : World) (π : Type) (val : π → Value) (A : π → (Nat → Prop) → World → Prop) : Ending → World → Prop := fun e w' => ∃ p S, e = .returned (val p) ∧ Below w0.heap.size w0 w' ∧ (∀ b, S b → w0.heap.size ≤ b ∧ b < w'.heap.size) ∧ A p S w'

theorem q_end0 {fn : Func} {v v' : Value} {i : Nat} (hr : ResT [] P n w0 F H fn v) (hi : H[i]? = some (base w0)) (hv : v = v') : SQ [] n w0 (bodyPost P fn (End0 w0 v')) .ret F H := fun a w ha hw =>
  ⟨ha.defers, v, hr a w ha hw, by rw [hv], hw.toBelow hi⟩

/-- The base is apart from whatever else is there. -/
theorem HeapIs.above {w : World} (h : HeapIs w0 H w) {i j : Nat} {e : Ent} (hij : i ≠ j) (hi : H[i]? = some (base w0)) (hj : H[j]? = some e) : ∀ b, e.S b → w0.heap.size ≤ b ∧ b < w.heap.size := fun b hb => by
  refine ⟨?_, (h.at hj).bound b hb⟩
  obtain ⟨l1, g1⟩ := List.getElem?_eq_some_iff.1 hi
  obtain ⟨l2, g2⟩ := List.getElem?_eq_some_iff.1 hj
  have hap := List.pairwise_iff_getElem.1 h.apart
  rcases Nat.lt_or_ge b w0.heap.size with hlt | hge
  · exfalso
    rcases Nat.lt_or_gt_of_ne hij with hl | hl
    · exact hap i j l1 l2 hl b (by rw [g1]; exact hlt) (by rw [g2]; exact hb)
    · exact hap j i l2 l1 hl b (by rw [g2]; exact hb) (by rw [g1]; exact hlt)
  · exact hge

theorem q_endM {fn : Func} {v : Value} {i : Nat} {π : Type} {val : π → Value} {A : π → (Nat → Prop) → World → Prop} (p : π) (S : Nat → Prop) (hr : ResT [] P n w0 F H fn v) (hi : H[i]? = some (base w0)) (hv : v = val p) (hS : ∀ w, HeapIs w0 H w → ∀ b, S b → w0.heap.size ≤ b ∧ b < w.heap.size) (hA : ∀ w, HeapIs w0 H w → A p S w) :
    SQ [] n w0 (bodyPost P fn (EndM w0 π val A)) .ret F H := fun a w ha hw =>
  ⟨ha.defers, v, hr a w ha hw, p, S, by rw [hv], hw.toBelow hi, hS w hw, hA w hw⟩

/-! ### A function's beginning -/
theorem ok_begin (args : List Value) (m : Nat) : Ok (args.length + m) [] ((List.range args.length).zip args) ⟨args.toArray ++ Array.replicate m undef, []⟩ := by
  refine ⟨rfl, by simp, fun t u ht => ?_⟩
  have key : ∀ (l : List Value) (s : Nat), lk ((List.range' s l.length).zip l) t = some u → s ≤ t ∧ l[t - s]? = some u := by
    intro l
    induction l with
    | nil => intro s h; simp [lk] at h
    | cons b l ih =>
      intro s h
      simp only [List.length_cons, List.range'_succ, List.zip_cons_cons] at h
      by_cases e : s = t
      · subst e; rw [lk_cons_eq] at h; simp only [Option.some.injEq] at h; subst h; simp
      · rw [lk_cons_ne e] at h
        obtain ⟨h1, h2⟩ := ih (s + 1) h
        refine ⟨by omega, ?_⟩
        rw [show t - s = (t - (s + 1)) + 1 by omega]; simpa using h2
  have := (key args 0 (by rw [List.range_eq_range'] at ht; exact ht)).2
  have hlt : t < args.length := by
    rcases Nat.lt_or_ge t args.length with h | h
    · exact h
    · rw [Nat.sub_zero, List.getElem?_eq_none h] at this; cases this
  simp only [Nat.sub_zero] at this
  rw [List.getElem?_eq_getElem hlt, Option.some.injEq] at this
  simp [Array.getElem?_append, hlt, this]

theorem fn0 {f : FuncId} {fn : Func} {c : Code} {args : List Value} {Pre : World → Prop} {v : Value} {nt : Nat} {F0 : List (Nat × Value)} (hf : P.funcs[f]? = some fn) (hb : fn.body = some c) (hn : fn.ntmps = nt) (hle : Nat.ble args.length nt = true) (hF : F0 = (List.range args.length).zip args)
    (h : ∀ w0, Pre w0 → SC none [] P nt w0 (bodyPost P fn (End0 w0 v)) c F0 [base w0]) : Fn0 P f args Pre v := fun w hw => by
  refine calls_of_wp hf hb ?_
  have e : args.toArray.size = args.length := by simp
  have hle' : args.length ≤ nt := Nat.le_of_ble_eq_true hle
  have ho := ok_begin args (nt - args.length)
  rw [show args.length + (nt - args.length) = nt by omega, ← hF] at ho
  rw [hn, e]
  exact h w hw _ w ho (HeapIs.begin w)

theorem fnM {f : FuncId} {fn : Func} {c : Code} {args : List Value} {Pre : World → Prop} {π : Type} {val : π → Value} {A : π → (Nat → Prop) → World → Prop} {nt : Nat} {F0 : List (Nat × Value)} (hf : P.funcs[f]? = some fn) (hb : fn.body = some c) (hn : fn.ntmps = nt) (hle : Nat.ble args.length nt = true) (hF : F0 = (List.range args.length).zip args)
    (h : ∀ w0, Pre w0 → SC none [] P nt w0 (bodyPost P fn (EndM w0 π val A)) c F0 [base w0]) : FnM P f args Pre π val A := fun w hw => by
  refine calls_of_wp hf hb ?_
  have e : args.toArray.size = args.length := by simp
  have hle' : args.length ≤ nt := Nat.le_of_ble_eq_true hle
  have ho := ok_begin args (nt - args.length)
  rw [show args.length + (nt - args.length) = nt by omega, ← hF] at ho
  rw [hn, e]
  exact h w hw _ w ho (HeapIs.begin w)

/-! ### Storing an aggregate into a box -/
def setCells (cs : List Value) (j : Nat) (vs : List Value) : List Value := cs.take j ++ vs ++ cs.drop (j + vs.length)

theorem HeapIs.storeN {w : World} (h : HeapIs w0 H w) {i B j : Nat} {cs vs : List Value} {T : TypeId} (hi : H[i]? = some (box B cs T)) (hv : ∀ v ∈ vs, one1 v = true) (hj : j + vs.length ≤ cs.length) :
    ∃ w', (storeCells ⟨B, j, none⟩ vs 0).run P w = .ok () w' ∧ HeapIs w0 (H.set i (box B (setCells cs j vs) T)) w' := by
  have g : w.heap[B]? = some (.cells cs.toArray T (0, 0)) := (h.at hi).here
  obtain ⟨w', c', h1, h2, h3, h4, h5, h6, h7⟩ := run_storeCells (P := P) (b := B) (o := j) vs 0 w cs.toArray T g hv (by simpa using hj)
  refine ⟨w', h1, h.change hi h5 (by omega) (fun b hb => .inl hb) (fun b _ hb => h7 b hb) (fun w1 w2 ha hA => by have := ha B rfl; simp only [box] at *; rw [this]; exact hA) ?_⟩
  show w'.heap[B]? = _
  rw [h2]
  have e : c' = (setCells cs j vs).toArray := by
    apply Array.ext'
    apply List.ext_getElem?
    intro m
    have := h4 m
    simp only [Nat.add_zero] at this
    rw [Array.getElem?_toList, this]
    unfold setCells
    by_cases e1 : j ≤ m ∧ m < j + vs.length
    · rw [if_pos e1]
      simp only [List.append_assoc]
      rw [List.getElem?_append_right (by simp; omega), List.getElem?_append_left (by simp; omega)]
      congr 1; simp; omega
    · rw [if_neg e1]
      rcases Nat.lt_or_ge m j with h' | h'
      · simp only [List.append_assoc]
        rw [List.getElem?_append_left (by simp; omega)]
        simp [List.getElem?_take, h']
      · rw [List.getElem?_append_right (by simp; omega)]
        simp only [List.getElem?_drop, List.length_append, List.length_take]
        rw [List.getElem?_toArray]
        congr 1
        omega
  rw [e]

theorem o_storeN {t : TypeId} {i B j m : Nat} {cs cs' vs : List Value} {T : TypeId} (hx : ev F x = some (.pointer (some ⟨B, j, none⟩))) (hy : ev F y = some (.agg vs.toArray)) (hi : H[i]? = some (box B cs T)) (ht : sizeIs P t = some m) (hm : vs.length = m) (hv : (vs.all one1) = true)
    (hj : Nat.ble (j + vs.length) cs.length = true) (hc : cs' = setCells cs j vs) (h : SO r ds P n w0 ops Q rest F (H.set i (box B cs' T))) : SO r ds P n w0 ops Q (⟨none, .store t x y, ty, pos, after, none⟩ :: rest) F H := fun a w ha hw =>
  wpL_plain rfl (fun _ h => by cases h) fun K hK => by
    subst hc; subst hm
    obtain ⟨w', h1, h2⟩ := hw.storeN (P := P) hi (fun v hv' => List.all_eq_true.1 hv v hv') (Nat.le_of_ble_eq_true hj)
    have hrun : (execOp a.eval ⟨none, .store t x y, ty, pos, after, none⟩).run P w = .ok .skip w' := by
      simp [execOp, ha.eval hx, ha.eval hy, Instr.storeAt, Instr.sureAddr, storeVar, run_bind, run_sizeOf ht, Value.cells, h1]
    unfold Oper.wp
    rw [hrun]
    exact hK _ _ (h _ _ ha h2)
end
end Go.Sx

/- Maps that the call makes: association lists, in the order of insertion. -/
namespace Go.Sx
open Go.RowKit

namespace AL
variable {κ ν : Type} [DecidableEq κ]
def get : List (κ × ν) → κ → Option ν
  | [], _ => none
  | (a, v) :: m, k => if k = a then some v else get m k
def set : List (κ × ν) → κ → ν → List (κ × ν)
  | [], k, x => [(k, x)]
  | (a, v) :: m, k, x => if k = a then (k, x) :: m else (a, v) :: set m k x
def del : List (κ × ν) → κ → List (κ × ν)
  | [], _ => []
  | (a, v) :: m, k => if k = a then m else (a, v) :: del m k

theorem get_set (m : List (κ × ν)) (k j : κ) (x : ν) : get (set m k x) j = if j = k then some x else get m j := by
  induction m with
  | nil => simp [set, get]
  | cons p m ih =>
    obtain ⟨a, v⟩ := p
    simp only [set]
    split
    · rename_i e; subst e; simp only [get]; split <;> simp_all
    · simp only [get, ih]; split <;> split <;> simp_all
end AL

/-- A key type of maps. -/
structure KTy (κ : Type) [DecidableEq κ] where
  enc : κ → Value
  kd : TypeDesc
  same : ∀ a b, Instr.sameNow kd (enc a) (enc b) = some (decide (a = b))
  bits : ∀ a, Instr.sameBits 10000 (enc a) (enc a) = true
  plain : (∃ k, kd = .int k) ∨ kd = .string

def kInt : KTy Int := ⟨fun z => .int .i64 z, .int .i64, fun a b => by simp [Instr.sameNow]; rfl, fun a => by simp [Instr.sameBits], .inl ⟨_, rfl⟩⟩

section
variable {κ ν : Type} [DecidableEq κ]

/-- when the entries were laid in: each at a time of its own, none after now -/
def Born (es : List MapEntry) (clock : Nat) : Prop := (es.map (·.born)).Nodup ∧ ∀ e ∈ es, e.born < clock
theorem Born.nil (c : Nat) : Born [] c := ⟨List.nodup_nil, fun e he => by cases he⟩
theorem Born.push {es : List MapEntry} {c : Nat} (h : Born es c) (k v : Value) : Born (es ++ [{ key := k, val := v, born := c }]) (c + 1) := by
  refine ⟨?_, fun e he => ?_⟩
  · rw [List.map_append, List.nodup_append]
    refine ⟨h.1, by simp, fun x hx y hy e => ?_⟩
    obtain ⟨z, hz, rfl⟩ := List.mem_map.1 hx
    have := h.2 z hz
    simp at hy; omega
  · rcases List.mem_append.1 he with he | he
    · have := h.2 e he; omega
    · simp at he; subst he; simp
theorem Born.modify {es : List MapEntry} {c : Nat} (h : Born es c) (q : Nat) (k v : Value) : Born (es.modify q fun e => { e with key := k, val := v }) c := by
  have h1 : (es.modify q fun e => { e with key := k, val := v }).map (·.born) = es.map (·.born) := by
    apply List.ext_getElem?
    intro j
    simp only [List.getElem?_map, List.getElem?_modify]
    split <;> simp
    cases es[j]? <;> rfl
  refine ⟨by rw [h1]; exact h.1, fun e he => ?_⟩
  have h2 : e.born ∈ (es.modify q fun e => { e with key := k, val := v }).map (·.born) := List.mem_map.2 ⟨e, he, rfl⟩
  rw [h1] at h2
  obtain ⟨z, hz, e2⟩ := List.mem_map.1 h2
  rw [← e2]; exact h.2 z hz
theorem Born.sub {es fs : List MapEntry} {c : Nat} (h : Born es c) (hs : fs.Sublist es) : Born fs c := ⟨(hs.map _).nodup h.1, fun e he => h.2 e (hs.subset he)⟩
def MapIs (K : KTy κ) (ve : ν → Value) (B : Nat) (m : List (κ × ν)) (w : World) : Prop :=
  ∃ es clock, w.heap[B]? = some (.map es clock) ∧ es.toList.map (fun e => (e.key, e.val)) = m.map (fun p => (K.enc p.1, ve p.2)) ∧ Born es.toList clock
def mapE (K : KTy κ) (ve : ν → Value) (B : Nat) (m : List (κ × ν)) : Ent := ⟨fun b => b = B, MapIs K ve B m⟩

theorem MapIs.agree {K : KTy κ} {ve : ν → Value} {B : Nat} {m : List (κ × ν)} {w1 w2 : World} (ha : Agree (fun b => b = B) w1 w2) (h : MapIs K ve B m w1) : MapIs K ve B m w2 := by
  obtain ⟨es, c, h1, h2⟩ := h
  exact ⟨es, c, (ha B rfl).trans h1, h2⟩

/-- Where a key stands. -/
def AL.idx : List (κ × ν) → κ → Nat → Option (Nat × ν)
  | [], _, _ => none
  | (a, v) :: m, k, i => if k = a then some (i, v) else AL.idx m k (i + 1)

theorem AL.get_idx (m : List (κ × ν)) (k : κ) (i : Nat) : AL.get m k = (AL.idx m k i).map (·.2) := by
  induction m generalizing i with
  | nil => rfl
  | cons p m ih =>
    obtain ⟨a, v⟩ := p
    simp only [AL.get, AL.idx]
    split
    · rfl
    · exact ih (i + 1)

theorem findNow_eq (K : KTy κ) (ve : ν → Value) (k : κ) : ∀ (es : List MapEntry) (m : List (κ × ν)) (i : Nat), es.map (fun e => (e.key, e.val)) = m.map (fun p => (K.enc p.1, ve p.2)) →
    Instr.findNow K.kd (K.enc k) es i = some ((AL.idx m k i).map fun p => (p.1, ve p.2))
  | [], [], _, _ => rfl
  | e :: es, (a, v) :: m, i, h => by
    simp only [List.map_cons, List.cons.injEq, Prod.mk.injEq] at h
    obtain ⟨⟨h1, h2⟩, h3⟩ := h
    simp only [Instr.findNow, h1, K.same]
    by_cases e1 : k = a
    · simp [e1, AL.idx, h2]
    · simp [e1, AL.idx]
      exact findNow_eq K ve k es m (i + 1) h3

variable {P : Program} {n : Nat} {w0 : World} {r : Option Nat} {ds : List Deferred} {Q : Exit → Act → World → Prop} {F F' : List (Nat × Value)} {H H' : List Ent} {ops : Array Oper}
variable {ty : TypeId} {pos : String} {after : Array Edge} {guard : Option (Nat × Bool)} {dst : Option Tmp} {rest : List Oper} {d : Nat} {x y : Operand}
variable {K : KTy κ} {ve : ν → Value} {m : List (κ × ν)}

theorem run_checkKey {e : Bool} {t : TypeId} {v : Value} {w : World} (hu : P.underlying t = some K.kd) : (Instr.checkKey e 10000 t v).run P w = .ok () w := by
  unfold Instr.checkKey
  rw [run_bind, run_underlying hu]
  rcases K.plain with ⟨k, hk⟩ | hk <;> rw [hk] <;> rfl

theorem run_findKey {t : TypeId} {k : κ} {es : List MapEntry} {w : World} (hu : P.underlying t = some K.kd) (h : es.map (fun e => (e.key, e.val)) = m.map (fun p => (K.enc p.1, ve p.2))) :
    (Instr.findKey t (K.enc k) es).run P w = .ok ((AL.idx m k 0).map fun p => (p.1, ve p.2)) w := by
  unfold Instr.findKey
  rw [run_bind, run_underlying hu]
  simp only [findNow_eq K ve k es m 0 h]
  rfl

/-- The zero value of a type. -/
def zeroV (P : Program) (t : TypeId) : Option Value := (P.info? t).bind (·.zero)
theorem run_zeroValue {t : TypeId} {z : Value} (h : zeroV P t = some z) (w : World) : (zeroValue t).run P w = .ok z w := by
  unfold zeroV at h
  simp only [Option.bind_eq_some_iff] at h
  obtain ⟨i, hi, hz⟩ := h
  simp [zeroValue, run_bind, run_typeInfo hi, hz]

theorem run_getMap {B : Nat} {es : Array MapEntry} {c : Nat} {w : World} (h : w.heap[B]? = some (.map es c)) : (getObj B).run P w = .ok (.map es c) w := by
  simp [getObj, Sem.run, h]

theorem p_lookup2 {t kt vt : TypeId} {i B : Nat} {k : κ} {dflt : ν} (hx : ev F x = some (.map (some B))) (hy : ev F y = some (K.enc k)) (hi : H[i]? = some (mapE K ve B m)) (hu : P.underlying t = some (.map kt vt)) (hk : P.underlying kt = some K.kd) (hz : zeroV P vt = some (ve dflt)) :
    Pure ds P n w0 ⟨dst, .lookup t x y true, ty, pos, after, guard⟩ F H (.tuple #[ve ((AL.get m k).getD dflt), .bool (AL.get m k).isSome]) := fun a w ha hw => by
  obtain ⟨es, c, h1, h2, _⟩ := (hw.at hi).here
  have hf := run_findKey (P := P) (K := K) (ve := ve) (m := m) (k := k) (es := es.toList) (w := w) hk h2
  rw [AL.get_idx m k 0]
  cases hidx : AL.idx m k 0 with
  | none => rw [hidx] at hf; simp [execOp, ha.eval hx, ha.eval hy, Instr.lookup, run_bind, run_underlying hu, run_getMap h1, run_checkKey hk, hf, run_zeroValue hz]
  | some p => rw [hidx] at hf; simp [execOp, ha.eval hx, ha.eval hy, Instr.lookup, run_bind, run_underlying hu, run_getMap h1, run_checkKey hk, hf]

theorem p_lookup1 {t kt vt : TypeId} {i B : Nat} {k : κ} {dflt : ν} (hx : ev F x = some (.map (some B))) (hy : ev F y = some (K.enc k)) (hi : H[i]? = some (mapE K ve B m)) (hu : P.underlying t = some (.map kt vt)) (hk : P.underlying kt = some K.kd) (hz : zeroV P vt = some (ve dflt)) :
    Pure ds P n w0 ⟨dst, .lookup t x y false, ty, pos, after, guard⟩ F H (ve ((AL.get m k).getD dflt)) := fun a w ha hw => by
  obtain ⟨es, c, h1, h2, _⟩ := (hw.at hi).here
  have hf := run_findKey (P := P) (K := K) (ve := ve) (m := m) (k := k) (es := es.toList) (w := w) hk h2
  rw [AL.get_idx m k 0]
  cases hidx : AL.idx m k 0 with
  | none => rw [hidx] at hf; simp [execOp, ha.eval hx, ha.eval hy, Instr.lookup, run_bind, run_underlying hu, run_getMap h1, run_checkKey hk, hf, run_zeroValue hz]
  | some p => rw [hidx] at hf; simp [execOp, ha.eval hx, ha.eval hy, Instr.lookup, run_bind, run_underlying hu, run_getMap h1, run_checkKey hk, hf]

theorem p_len_map {t kt vt : TypeId} {ats : Array TypeId} {i B : Nat} (hx : ev F x = some (.map (some B))) (hi : H[i]? = some (mapE K ve B m)) (ha' : ats[0]? = some t) (hu : P.underlying t = some (.map kt vt)) :
    Pure ds P n w0 ⟨dst, .call { callee := .builtin .len, args := #[x], argTypes := ats }, ty, pos, after, guard⟩ F H (.int .i64 (m.length : Int)) := fun a w ha hw => by
  obtain ⟨es, c, h1, h2, _⟩ := (hw.at hi).here
  have hl : es.size = m.length := by have := congrArg List.length h2; simpa using this
  simp [execOp, resolve, invoke, builtin, Builtin.len_, ha.eval hx, ha', run_bind, run_underlying hu, run_getMap h1, goInt, hl]

theorem o_makeMap {t : TypeId} (K : KTy κ) (ve : ν → Value) (hn : Nat.blt d n = true) (h : ∀ B, SO r ds P n w0 ops Q rest ((d, .map (some B)) :: F) (mapE K ve B [] :: H)) : SO r ds P n w0 ops Q (⟨some d, .makeMap t none, ty, pos, after, none⟩ :: rest) F H := fun a w ha hw =>
  wpL_plain rfl (fun _ h => by cases h) fun KK hK => by
    have hrun : (execOp a.eval ⟨some d, .makeMap t none, ty, pos, after, none⟩).run P w = .ok (.value (.map (some w.heap.size))) { w with heap := w.heap.push (.map #[] 0) } := by
      simp [execOp, Instr.makeMap, newObj, run_bind, Sem.run, run_pure]
    unfold Oper.wp
    rw [hrun]
    exact hK _ _ (h w.heap.size _ _ (ha.put hn _) (hw.push _ (fun _ _ ha hA => MapIs.agree ha hA) ⟨#[], 0, by simp, rfl, Born.nil 0⟩))

theorem modify_map (K : KTy κ) (ve : ν → Value) (k : κ) (v : ν) : ∀ (es : List MapEntry) (m : List (κ × ν)) (j : Nat), es.map (fun e => (e.key, e.val)) = m.map (fun p => (K.enc p.1, ve p.2)) → ∀ i u, AL.idx m k j = some (i, u) → j ≤ i ∧
    (es.modify (i - j) fun e => { e with key := K.enc k, val := ve v }).map (fun e => (e.key, e.val)) = (AL.set m k v).map (fun p => (K.enc p.1, ve p.2)) ∧ (es[i - j]?).map (·.key) = some (K.enc k)
  | [], [], _, _, _, _, h => by simp [AL.idx] at h
  | e :: es, (a, x) :: m, j, h, i, u, hi => by
    simp only [List.map_cons, List.cons.injEq, Prod.mk.injEq] at h
    obtain ⟨⟨h1, h2⟩, h3⟩ := h
    simp only [AL.idx] at hi
    split at hi
    · rename_i e1
      simp only [Option.some.injEq, Prod.mk.injEq] at hi
      obtain ⟨rfl, rfl⟩ := hi
      subst e1
      simp [AL.set, h3, h1]
    · rename_i e1
      obtain ⟨g1, g2, g3⟩ := modify_map K ve k v es m (j + 1) h3 i u hi
      refine ⟨by omega, ?_, ?_⟩
      · rw [show i - j = (i - (j + 1)) + 1 by omega]; simp [AL.set, e1, h1, h2, g2]
      · rw [show i - j = (i - (j + 1)) + 1 by omega]; simpa using g3

theorem set_none (K : KTy κ) (ve : ν → Value) (k : κ) (v : ν) : ∀ (m : List (κ × ν)) (j : Nat), AL.idx m k j = none → AL.set m k v = m ++ [(k, v)]
  | [], _, _ => rfl
  | (a, x) :: m, j, h => by
    simp only [AL.idx] at h
    split at h
    · cases h
    · rename_i e; simp [AL.set, e, set_none K ve k v m (j + 1) h]

theorem o_mapUpdate {t kt vt : TypeId} {z : Operand} {i B : Nat} {k : κ} {v : ν} (hx : ev F x = some (.map (some B))) (hy : ev F y = some (K.enc k)) (hz : ev F z = some (ve v)) (hi : H[i]? = some (mapE K ve B m)) (hu : P.underlying t = some (.map kt vt)) (hk : P.underlying kt = some K.kd)
    (h : SO r ds P n w0 ops Q rest F (H.set i (mapE K ve B (AL.set m k v)))) : SO r ds P n w0 ops Q (⟨none, .mapUpdate t x y z, ty, pos, after, none⟩ :: rest) F H := fun a w ha hw =>
  wpL_plain rfl (fun _ h => by cases h) fun KK hK => by
    obtain ⟨es, c, h1, h2, hbn⟩ := (hw.at hi).here
    have hf := run_findKey (P := P) (K := K) (ve := ve) (m := m) (k := k) (es := es.toList) (w := w) hk h2
    have key : ∀ es' c', es'.toList.map (fun e => (e.key, e.val)) = (AL.set m k v).map (fun p => (K.enc p.1, ve p.2)) ∧ Born es'.toList c' → HeapIs w0 (H.set i (mapE K ve B (AL.set m k v))) { w with heap := w.heap.setIfInBounds B (.map es' c') } := fun es' c' he => by
      refine hw.change hi ⟨rfl, rfl, rfl⟩ (by simp) (fun b hb => .inl hb) (fun b _ hb => ?_) (fun _ _ ha hA => MapIs.agree ha hA) ⟨es', c', ?_, he⟩
      · show (w.heap.setIfInBounds B _)[b]? = _
        exact Array.getElem?_setIfInBounds_ne (fun e => hb e.symm)
      · have hlt : B < w.heap.size := (hw.at hi).bound B rfl
        show (w.heap.setIfInBounds B _)[B]? = _
        simp [hlt]
    have hset : ∀ o, (setObj B o).run P w = .ok () { w with heap := w.heap.setIfInBounds B o } := fun o => by simp [setObj, Sem.run, h1]
    have hrun : ∃ es' c', (execOp a.eval ⟨none, .mapUpdate t x y z, ty, pos, after, none⟩).run P w = .ok .skip { w with heap := w.heap.setIfInBounds B (.map es' c') } ∧ es'.toList.map (fun e => (e.key, e.val)) = (AL.set m k v).map (fun p => (K.enc p.1, ve p.2)) ∧ Born es'.toList c' := by
      cases hidx : AL.idx m k 0 with
      | none =>
        rw [hidx] at hf
        refine ⟨es.push { key := K.enc k, val := ve v, born := c }, c + 1, ?_, by rw [set_none K ve k v m 0 hidx]; simp [h2], by simpa using hbn.push (K.enc k) (ve v)⟩
        simp [execOp, ha.eval hx, ha.eval hy, ha.eval hz, Instr.mapUpdate, run_bind, run_underlying hu, run_getMap h1, run_checkKey hk, hf, hset, run_pure]
      | some p =>
        rw [hidx] at hf
        obtain ⟨q, u⟩ := p
        obtain ⟨_, g2, g3⟩ := modify_map K ve k v es.toList m 0 h2 q u hidx
        refine ⟨es.modify q fun e => { e with key := K.enc k, val := ve v }, c, ?_, by simpa using g2, by simpa using hbn.modify q (K.enc k) (ve v)⟩
        have g3' : (Option.map (fun e => e.key) es[q]?).getD (K.enc k) = K.enc k := by
          have : (es[q]?).map (·.key) = some (K.enc k) := by simpa using g3
          rw [this]; rfl
        have hstay : (Instr.keyThatStays (K.enc k) (K.enc k)).run P w = .ok (K.enc k) w := by simp [Instr.keyThatStays, K.bits]
        simp [execOp, ha.eval hx, ha.eval hy, ha.eval hz, Instr.mapUpdate, run_bind, run_underlying hu, run_getMap h1, run_checkKey hk, hf, hset, run_pure, g3', hstay]
    obtain ⟨es', c', h3, h4⟩ := hrun
    unfold Oper.wp
    rw [h3]
    exact hK _ _ (h _ _ ha (key es' c' h4))
end
end Go.Sx

/- A region that draws its order and changes the heap: what only reads is taken first, the rest in whatever order. Struct literals. -/
namespace Go.Sx
open Go.RowKit

section
variable {P : Program} {n : Nat} {w0 : World} {r : Option Nat} {ds : List Deferred} {Q : Exit → Act → World → Prop} {F F' : List (Nat × Value)} {H H' Hr : List Ent} {ops : Array Oper}
variable {ty : TypeId} {pos : String} {after : Array Edge} {guard : Option (Nat × Bool)} {dst : Option Tmp} {d : Nat} {fuel : Nat} {listed : Array Bool}

def SH (ds : List Deferred) (P : Program) (n : Nat) (w0 : World) (ops : Array Oper) (Q : Exit → Act → World → Prop) (Hr : List Ent) (fuel : Nat) (listed : Array Bool) (F : List (Nat × Value)) (H : List Ent) : Prop :=
  ∀ a w, Ok n ds F a → HeapIs w0 H w → wpAnyH P .any ops Q (HeapIs w0 Hr) fuel listed a w

def HQ (P : Program) (w0 : World) (ops : Array Oper) (Q : Exit → Act → World → Prop) (Hr : List Ent) (fuel : Nat) (listed : Array Bool) : Exit → Act → World → Prop
  | .normal, a, w => HeapIs w0 Hr w ∧ wpAnyH P .any ops Q (HeapIs w0 Hr) fuel listed a w
  | .exit i, a, w => Q (.exit i) a w
  | .goto i, a, w => Q (.goto i) a w
  | .ret, a, w => Q .ret a w
  | .panic c, a, w => Q (.panic c) a w
  | .outgrown, a, w => Q .outgrown a w

theorem c_held {id m : Nat} {l : List Oper} {ls : Array Bool} (hm : P.follows .mixedOrders = true) (Hr : List Ent) (hl : l.length = m) (hls : ls = Array.replicate m false) (h : SH ds P n w0 l.toArray Q Hr m ls F H) : SC none ds P n w0 Q (.region id l.toArray true) F H := fun a w ha hw =>
  wp_region_held (S := HeapIs w0 Hr) hm (by
    have := h a _ ha (hw.drew (w.drawn + 1))
    subst hl; subst hls
    simpa using this)

theorem h_take {i : Nat} {o : Oper} {v : Value} {ls : Array Bool} (hi : ops[i]? = some o) (hs : Region.noSelect ops = true) (hf : Region.free .any ops listed i = true) (hr : (Region.ready .any ops listed).contains i = true)
    (hQ : ∀ c a w, Q (.panic c) (a.put o.dst v) w → Q (.panic c) a w) (hp : Pure ds P n w0 o F Hr v) (hg : o.guard = none) (hd : o.dst = some d) (hn : Nat.blt d n = true) (hsub : ∀ w, HeapIs w0 H w → HeapIs w0 Hr w) (hls : ls = listed.setIfInBounds i true)
    (k : SH ds P n w0 ops Q Hr fuel ls ((d, v) :: F) H) : SH ds P n w0 ops Q Hr (fuel + 1) listed F H := fun a w ha hw => by
  subst hls
  refine wpAnyH_take hi hs hf hr hQ (.inl ⟨by simp [Region.wanted, hg], fun w' hw' => hp a w' ha hw'⟩) (hsub w hw) ?_
  rw [hd]
  exact k _ w (ha.put hn v) hw

theorem h_next {ls : Array Bool} (hsub : ∀ w, HeapIs w0 H w → HeapIs w0 Hr w) (k : SH ds P n w0 ops Q Hr fuel ls F H) : SQ ds n w0 (HQ P w0 ops Q Hr fuel ls) .normal F H := fun a w ha hw => ⟨hsub w hw, k a w ha hw⟩

theorem wpOp_of_SO {i : Nat} {o : Oper} {ls : Array Bool} {a : Act} {w : World} (hi : ops[i]? = some o) (h : wpList P ops (HQ P w0 ops Q Hr fuel ls) [o] a w) : wpOp P ops Q i (fun a' w' => HeapIs w0 Hr w' ∧ wpAnyH P .any ops Q (HeapIs w0 Hr) fuel ls a' w') a w := by
  unfold wpOp
  simp only [hi]
  unfold wpList at h
  split
  · rename_i hw; rw [if_pos hw] at h
    rcases h with h | ⟨h1, h2⟩
    · refine .inl ?_
      unfold Oper.wp at *
      generalize (execOp a.eval o).run P w = r at *
      cases r with
      | ok nx w' => cases nx <;> exact h
      | halt x w' => cases x <;> exact h
    · exact .inr ⟨h1, h2⟩
  · rename_i hw; rw [if_neg hw] at h; exact h

theorem h_one {i : Nat} {o : Oper} {ls : Array Bool} (hr : Region.ready .any ops listed = [i]) (hi : ops[i]? = some o) (hls : ls = listed.setIfInBounds i true) (h : SO none ds P n w0 ops (HQ P w0 ops Q Hr fuel ls) [o] F H) : SH ds P n w0 ops Q Hr (fuel + 1) listed F H := fun a w ha hw => by
  subst hls
  refine wpAnyH_all hr (by simp) fun j hj => ?_
  rcases List.mem_singleton.1 hj with rfl
  exact wpOp_of_SO hi (h a w ha hw)

theorem h_two {i j : Nat} {o o' : Oper} {ls ls' : Array Bool} (hr : Region.ready .any ops listed = [i, j]) (hi : ops[i]? = some o) (hj : ops[j]? = some o') (hls : ls = listed.setIfInBounds i true) (hls' : ls' = listed.setIfInBounds j true)
    (h : SO none ds P n w0 ops (HQ P w0 ops Q Hr fuel ls) [o] F H) (h' : SO none ds P n w0 ops (HQ P w0 ops Q Hr fuel ls') [o'] F H) : SH ds P n w0 ops Q Hr (fuel + 1) listed F H := fun a w ha hw => by
  subst hls; subst hls'
  refine wpAnyH_all hr (by simp) fun k hk => ?_
  rcases List.mem_cons.1 hk with rfl | hk
  · exact wpOp_of_SO hi (h a w ha hw)
  · rcases List.mem_singleton.1 hk with rfl
    exact wpOp_of_SO hj (h' a w ha hw)

theorem h_three {i j k : Nat} {o o' o'' : Oper} {ls ls' ls'' : Array Bool} (hr : Region.ready .any ops listed = [i, j, k]) (hi : ops[i]? = some o) (hj : ops[j]? = some o') (hk : ops[k]? = some o'') (hls : ls = listed.setIfInBounds i true) (hls' : ls' = listed.setIfInBounds j true) (hls'' : ls'' = listed.setIfInBounds k true)
    (h : SO none ds P n w0 ops (HQ P w0 ops Q Hr fuel ls) [o] F H) (h' : SO none ds P n w0 ops (HQ P w0 ops Q Hr fuel ls') [o'] F H) (h'' : SO none ds P n w0 ops (HQ P w0 ops Q Hr fuel ls'') [o''] F H) : SH ds P n w0 ops Q Hr (fuel + 1) listed F H := fun a w ha hw => by
  subst hls; subst hls'; subst hls''
  refine wpAnyH_all hr (by simp) fun q hq => ?_
  rcases List.mem_cons.1 hq with rfl | hq
  · exact wpOp_of_SO hi (h a w ha hw)
  · rcases List.mem_cons.1 hq with rfl | hq
    · exact wpOp_of_SO hj (h' a w ha hw)
    · rcases List.mem_singleton.1 hq with rfl
      exact wpOp_of_SO hk (h'' a w ha hw)

theorem h_done (hr : Region.ready .any ops listed = []) (h : SQ ds n w0 Q .normal F H) : SH ds P n w0 ops Q Hr fuel listed F H := fun a w ha hw => wpAnyH_done hr (h a w ha hw) fuel

/-- What is known where the ways meet again behind c. -/
theorem c_cut {c : Code} {G : Type} (FE : G → List (Nat × Value)) (HE : G → List Ent) (hr_ : ∀ K : Act → World → Prop, (∀ g a w, Ok n ds (FE g) a → HeapIs w0 (HE g) w → K a w) → SC r ds P n w0 (Exit.then K Q) c F H) (k : ∀ g, SQ ds n w0 Q .normal (FE g) (HE g)) : SC r ds P n w0 Q c F H := fun a w ha hw =>
  wpC_mono (fun e a' w' h => by
    cases e with
    | normal => obtain ⟨g, h1, h2⟩ := h; exact k g a' w' h1 h2
    | _ => exact h) (hr_ (fun a' w' => ∃ g, Ok n ds (FE g) a' ∧ HeapIs w0 (HE g) w') (fun g a' w' h1 h2 => ⟨g, h1, h2⟩) a w ha hw)

theorem q_kont {G : Type} {FE : G → List (Nat × Value)} {HE : G → List Ent} {K : Act → World → Prop} (hK : ∀ g a w, Ok n ds (FE g) a → HeapIs w0 (HE g) w → K a w) (g : G) (hF : Sub F (FE g)) (hH : ∀ w, HeapIs w0 H w → HeapIs w0 (HE g) w) : SQ ds n w0 (Exit.then K Q) .normal F H :=
  fun _ w ha hw => hK g _ w (ha.sub hF) (hH w hw)

/-! ### A guard that says yes -/
theorem o_unguard {op : Op} {g : Nat} {want : Bool} {rest : List Oper} (dg : Nat) (hdg : ((ops[g]?).bind (·.dst)) = some dg) (hb : lk F dg = some (.bool want)) (h : SO r ds P n w0 ops Q (⟨dst, op, ty, pos, after, none⟩ :: rest) F H) :
    SO r ds P n w0 ops Q (⟨dst, op, ty, pos, after, some (g, want)⟩ :: rest) F H := fun a w ha hw => by
  have h1 := h a w ha hw
  have hw' : Region.wanted (⟨dst, op, ty, pos, after, some (g, want)⟩ : Oper) (yielded ops a.tmps) = true := by simp [Region.wanted, yielded, hdg, ha.knows dg _ hb]
  cases r with
  | none =>
    simp only [wpL] at h1 ⊢
    unfold wpList at h1 ⊢
    rw [if_pos hw']
    rw [if_pos (by simp [Region.wanted])] at h1
    exact h1
  | some l =>
    simp only [wpL] at h1 ⊢
    unfold wpListIn at h1 ⊢
    rw [if_pos hw']
    rw [if_pos (by simp [Region.wanted])] at h1
    exact h1
theorem w_unguard {op : Op} {g : Nat} {want : Bool} {rest : List Oper} (dg : Nat) (hdg : ((ops[g]?).bind (·.dst)) = some dg) (hb : lk F dg = some (.bool want)) (h : SW ds P n w0 ops Q (⟨dst, op, ty, pos, after, none⟩ :: rest) F H) :
    SW ds P n w0 ops Q (⟨dst, op, ty, pos, after, some (g, want)⟩ :: rest) F H := fun a ha => by
  have h1 := h a ha
  have hw' : Region.wanted (⟨dst, op, ty, pos, after, some (g, want)⟩ : Oper) (yielded ops a.tmps) = true := by simp [Region.wanted, yielded, hdg, ha.knows dg _ hb]
  unfold wpQuiet at h1 ⊢
  rw [if_pos hw']
  rw [if_pos (by simp [Region.wanted])] at h1
  exact h1

/-! ### A field of an element -/
theorem p_fieldAddrE {s : TypeId} {x : Operand} {f off : Nat} {A : Addr} (hx : ev F x = some (.pointer (some A))) (hf : fieldOff P s f = some off) : Pure ds P n w0 ⟨dst, .fieldAddr s x f, ty, pos, after, guard⟩ F H (.pointer (some (A.add off))) := fun a w ha _ => by
  simp [execOp, run_bind, ha.eval hx, run_fieldAt hf]

theorem p_loadF {α : Type} {T : Ty α} {a : Option Addr} {cap : Nat} {L : List α} {t : TypeId} {x : Operand} {i j : Nat} {v : Value} (hx : ev F x = some (.pointer (some ((ea a (i * T.k)).add j)))) (hr : ∀ w, HeapIs w0 H w → Rd T w a cap L) (hi : i < L.length) (ht : shp P t = some none) (hk : (T.enc L[i])[j]? = some v) :
    Pure ds P n w0 ⟨dst, .load t x, ty, pos, after, guard⟩ F H v := fun b w hb hw => by
  have hj : j < T.k := by rw [← T.len L[i]]; exact (List.getElem?_eq_some_iff.1 hk).1
  have hc := (hr w hw).cell hi hj
  rw [hk] at hc
  simp [execOp, run_bind, hb.eval hx, Instr.loadAt, Instr.sureAddr, run_pure, run_loadVar_one ht hc]

theorem w_call0_guarded {f : FuncId} {args : Array Operand} {ats : Array TypeId} {vs : List Value} {Pre : World → Prop} {v : Value} {g : Nat} {want : Bool} {rest : List Oper} (hv : evs F args.toList = some vs) (hf : Fn0 P f vs Pre v) (hP : HasFn P f) (hpre : ∀ w, HeapIs w0 H w → Pre w) (dg : Nat) (hdg : ((ops[g]?).bind (·.dst)) = some dg)
    (hb : lk F dg = some (.bool want)) (hn : Nat.blt d n = true)
    (h : SW ds P n w0 ops Q rest ((d, v) :: F) H) : SW ds P n w0 ops Q (⟨some d, .call { callee := .value (.func f), args := args, argTypes := ats }, ty, pos, after, some (g, want)⟩ :: rest) F H := fun a ha =>
  wpQuiet_step fun K hK => by
    obtain ⟨fn, c, h1, h2, h3⟩ := hP
    have hw' : Region.wanted (⟨some d, .call { callee := .value (.func f), args := args, argTypes := ats }, ty, pos, after, some (g, want)⟩ : Oper) (yielded ops a.tmps) = true := by
      simp [Region.wanted, yielded, hdg, ha.knows dg _ hb]
    rw [if_pos hw']
    refine ⟨v, fun w hw => ?_, hK _ (h _ (ha.put hn v))⟩
    unfold Oper.quietAt
    rw [run_call ha hv h1 h2 h3]
    exact ⟨rfl, (hf w (hpre w hw)).mono fun e w' ⟨he, hb⟩ => ⟨he, hw.below hb⟩⟩

/-! ### Struct literals -/
def fieldPlaces (P : Program) (t : TypeId) : Option (List (Nat × Nat)) :=
  match P.underlying t with
  | some (.struct fs) => fs.toList.mapM fun f => (P.info? f.type).map fun i => (f.offset, i.size)
  | _ => none

theorem run_places (w : World) : ∀ (l : List Field) (pl : List (Nat × Nat)), l.mapM (fun f => (P.info? f.type).map fun i => (f.offset, i.size)) = some pl → (l.mapM (fun f => do pure (f.offset, ← sizeOf f.type) : Field → Sem (Nat × Nat))).run P w = .ok pl w
  | [], pl, h => by simp at h; subst h; rfl
  | f :: l, pl, h => by
    rw [List.mapM_cons] at h
    cases h1 : P.info? f.type with
    | none => rw [h1] at h; simp at h
    | some i =>
      rw [h1] at h
      cases h2 : l.mapM (fun f => (P.info? f.type).map fun i => (f.offset, i.size)) with
      | none => rw [h2] at h; simp at h
      | some pl' =>
        rw [h2] at h
        simp at h
        subst h
        have ih := run_places w l pl' h2
        have hs : (sizeOf f.type).run P w = .ok i.size w := by simp [sizeOf, run_bind, run_typeInfo h1, run_pure]
        rw [List.mapM_cons, run_bind]
        simp only [run_bind, hs, run_pure, ih]

theorem evs_pairs {a : Act} (ha : Ok n ds F a) : ∀ (ps : List (Nat × Operand)) (vs : List Value), evs F (ps.map (·.2)) = some vs → ps.map (fun p => (p.1, a.eval p.2)) = (ps.map (·.1)).zip vs
  | [], vs, h => by simp [evs] at h; subst h; rfl
  | (i, x) :: ps, vs, h => by
    simp only [List.map_cons, evs] at h
    split at h
    · rename_i v vs' h1 h2
      simp only [Option.some.injEq] at h
      subst h
      simp only [List.map_cons, List.zip_cons_cons, ha.eval h1, evs_pairs ha ps vs' h2]
    · simp at h

theorem p_build {t : TypeId} {ps : List (Nat × Operand)} {pl : List (Nat × Nat)} {z : List Value} {vs cells : List Value} (hp : fieldPlaces P t = some pl) (hz : zeroOf P t = some z) (hv : evs F (ps.map (·.2)) = some vs)
    (hf : Instr.fill (pl.toArray[·]?) z.toArray ((ps.map (·.1)).zip vs) = some cells.toArray) : Pure ds P n w0 ⟨dst, .build t ps.toArray, ty, pos, after, guard⟩ F H (.agg cells.toArray) := fun a w ha _ => by
  unfold zeroOf at hz
  simp only [Option.map_eq_some_iff, Option.bind_eq_some_iff] at hz
  obtain ⟨zv, ⟨i, hi, hzv⟩, rfl⟩ := hz
  unfold fieldPlaces at hp
  split at hp
  · rename_i fs hu
    have h1 := evs_pairs ha ps vs hv
    have hzv' : (zeroValue t).run P w = .ok zv w := by simp [zeroValue, run_bind, run_typeInfo hi, hzv]
    have h2 : (fs.mapM (fun f => do pure (f.offset, ← sizeOf f.type) : Field → Sem (Nat × Nat))).run P w = .ok pl.toArray w := by
      have e : fs = fs.toList.toArray := by simp
      rw [e, List.mapM_toArray]
      have h3 := run_places (P := P) w fs.toList pl hp
      show (Functor.map _ _ : Sem _).run P w = _
      have : ∀ (x : Sem (List (Nat × Nat))), (List.toArray <$> x) = (x >>= fun y => pure y.toArray) := fun x => rfl
      rw [this, run_bind, h3]; rfl
    have hb : (Instr.build t ((ps.map (fun p => (p.1, a.eval p.2))).toArray)).run P w = .ok (.agg cells.toArray) w := by
      unfold Instr.build
      simp only [run_bind, hzv', run_underlying hu, h2, h1, run_pure]
      have hf' : Instr.fill (fun x => pl.toArray[x]?) zv.cells ((ps.map (·.1)).zip vs) = some cells.toArray := by simpa using hf
      simp only [hf', run_pure]
    simp only [execOp, List.map_toArray, run_bind]
    rw [hb]
    rfl
  · cases hp
end
end Go.Sx

/- From the row's reading of the arguments to what the walks ask. -/
namespace Go.Sx
open Go.RowKit Go.ChangeShapes Go.WideShapes Go.ChangeAt

/-- What the readings of an element type's cells are. -/
def ElTy {α : Type} (P : Program) (e : TypeId) (T : Ty α) (WF : α → Prop) : Prop :=
  P.cellsOf e = T.k ∧ 0 < T.k ∧ ∀ {H : Type} (enc : TypeId × Value → H) (w : World) (fuel : Nat) (cs : List Value) (x : DataW H × List MemPlace), DataW.trod enc P w 0 (fun _ => true) true fuel e cs = some x → ∃ z, cs = T.enc z ∧ WF z

theorem choose_list {α : Type} {Pz : Nat → α → Prop} : ∀ n, (∀ i, i < n → ∃ z, Pz i z) → ∃ L : List α, L.length = n ∧ ∀ i (h : i < L.length), Pz i L[i]
  | 0, _ => ⟨[], rfl, fun i h => by simp at h⟩
  | n + 1, h => by
    obtain ⟨L, hl, hL⟩ := choose_list n (fun i hi => h i (by omega))
    obtain ⟨z, hz⟩ := h n (by omega)
    refine ⟨L ++ [z], by simp [hl], fun i hi => ?_⟩
    simp only [List.length_append, List.length_cons, List.length_nil] at hi
    by_cases e : i < L.length
    · rw [List.getElem_append_left e]; exact hL i e
    · have : i = L.length := by omega
      subst this
      rw [List.getElem_append_right (by omega)]
      simpa [hl] using hz

section
variable {α H : Type} {P : Program} {enc : TypeId × Value → H} {w : World} {T : Ty α} {WF : α → Prop}

theorem add_add {x : Addr} (hx : x.spot = none) (m j : Nat) : (x.add m).add j = ⟨x.block, x.off + m + j, none⟩ := by
  obtain ⟨b, o, s⟩ := x
  simp only at hx
  subst hx
  unfold Addr.add
  split <;> split <;> simp_all

theorem open_rd_of {t e : TypeId} {a : Option Addr} {len cap fuel : Nat} {d : DataW H} {ps : List MemPlace} (hu : P.underlying t = some (.slice e)) (hT : ElTy P e T WF) (hby : 0 < P.bytesOf e) (hf : DataW.trod enc P w 0 (fun _ => true) true fuel t [.slice a len cap] = some (d, ps))
    (hsz : ∀ m ∈ d.weights P t, m ≤ reachBytes) : ∃ L : List α, len = L.length ∧ Rd T w a cap L ∧ ∀ z ∈ L, WF z := by
  obtain ⟨hc, hk, hdec⟩ := hT
  rcases DataW.trod_slice hu hf with ⟨h0, _⟩ | ⟨x, len', cap', elems, rest, n, _, hcs, hx, hb, hl, hm, hlen, hel, hsp, _⟩
  · simp only [List.cons.injEq, Value.slice.injEq, and_true] at h0
    obtain ⟨rfl, rfl, rfl⟩ := h0
    exact ⟨[], rfl, Rd.nil T w, by simp⟩
  · simp only [List.cons.injEq, Value.slice.injEq, and_true] at hcs
    obtain ⟨rfl, rfl, rfl⟩ := hcs
    simp only [Prod.mk.injEq] at hx
    obtain ⟨rfl, _⟩ := hx
    obtain ⟨hrl, hr⟩ := hsp rfl
    have hreach : (elems.length + rest.length) * P.bytesOf e ≤ reachBytes := hsz _ (by simp [DataW.weights, hu])
    have hbd : len ≤ 140737488355328 := by
      have h1 : (elems.length + rest.length) * 1 ≤ (elems.length + rest.length) * P.bytesOf e := Nat.mul_le_mul_left _ hby
      unfold reachBytes at hreach
      omega
    rw [hc] at hel hr
    -- each element up to the capacity
    have each : ∀ i, i < cap → ∃ z, (∀ j, j < T.k → w.cell? ((x.add (i * T.k)).add j) = (T.enc z)[j]?) ∧ WF z := fun i hi => by
      have hsome : ∃ y, (w.cells? 0 (x.add (i * T.k)) T.k).bind (DataW.trod enc P w 0 (fun _ => true) true n e) = some y := by
        by_cases h : i < len
        · refine ⟨elems[i], ?_⟩; rw [hel i h, List.getElem?_eq_getElem (by omega)]
        · refine ⟨rest[i - len]'(by omega), ?_⟩
          have := hr (i - len) (by omega)
          rw [show len + (i - len) = i by omega] at this
          rw [this, List.getElem?_eq_getElem (by omega)]
      obtain ⟨y, hy⟩ := hsome
      rw [Option.bind_eq_some_iff] at hy
      obtain ⟨cs, hcs, hy⟩ := hy
      obtain ⟨z, rfl, hz⟩ := hdec enc w n cs y hy
      obtain ⟨_, _, hcell⟩ := World.cells?_some hcs
      exact ⟨z, hcell, hz⟩
    obtain ⟨L, hL, hLP⟩ := choose_list (Pz := fun i z => (∀ j, j < T.k → w.cell? ((x.add (i * T.k)).add j) = (T.enc z)[j]?) ∧ WF z) len (fun i hi => each i (by omega))
    have hspot : 0 < cap → x.spot = none := fun h0 => by
      obtain ⟨z, hz, _⟩ := each 0 h0
      have h1 := hz 0 hk
      have e1 : (x.add (0 * T.k)).add 0 = x := by simp [Addr.add]
      have h2 : 0 < (T.enc z).length := by rw [T.len]; exact hk
      rw [e1, List.getElem?_eq_getElem h2] at h1
      unfold World.cell? at h1
      split at h1
      · split at h1
        · cases h1
        · rename_i hs; simpa using hs
      · cases h1
    refine ⟨L, hL.symm, ⟨by omega, by omega, fun h0 => ?_, fun i hi j hj => ?_⟩, fun z hz => ?_⟩
    · obtain ⟨z, hz, _⟩ := each (cap - 1) (by omega)
      have h1 := hz (T.k - 1) (by omega)
      rw [add_add (hspot h0), List.getElem?_eq_getElem (by rw [T.len]; omega)] at h1
      refine ⟨hspot h0, ?_, ?_⟩
      · have h5 := World.block_lt_of_cell? w _ h1; exact h5
      · unfold World.cell? at h1
        split at h1
        · rename_i c ty fz hh
          refine ⟨c, ty, fz, hh, ?_⟩
          simp only [Option.isSome_none, Bool.false_eq_true, if_false] at h1
          have h2 := (Array.getElem?_eq_some_iff.1 h1).1
          have h3 : cap * T.k = (cap - 1) * T.k + T.k := by rw [← Nat.succ_mul]; congr 1; omega
          omega
        · cases h1
    · have h1 := (hLP i hi).1 j hj
      rw [add_add (hspot (by omega))] at h1
      exact h1
    · obtain ⟨i, hi, rfl⟩ := List.getElem_of_mem hz
      exact (hLP i hi).2

theorem open_rd {t e : TypeId} {v : Value} {d : DataW H} {ps : List MemPlace} {base : Nat} {r : Reach} (hu : P.underlying t = some (.slice e)) (hT : ElTy P e T WF) (hby : 0 < P.bytesOf e) (hv : Value.okWide P w r base t v) (h : DataW.Trod enc P w 0 (fun _ => true) true t v d ps)
    (hsz : ∀ m ∈ d.weights P t, m ≤ reachBytes) : ∃ (a : Option Addr) (cap : Nat) (L : List α), v = .slice a L.length cap ∧ Rd T w a cap L ∧ ∀ z ∈ L, WF z := by
  obtain ⟨a, len, cap, rfl⟩ := okWide_slice hu hv
  obtain ⟨fuel, hf⟩ := h
  obtain ⟨L, rfl, h1, h2⟩ := open_rd_of hu hT hby (by simpa [Value.cells] using hf) hsz
  exact ⟨a, cap, L, rfl, h1, h2⟩

/-! ### Element types -/
def In64 (z : Int) : Prop := -9223372036854775808 ≤ z ∧ z ≤ 9223372036854775807
theorem in64_of {z : Int} (h : (Lit.int .i64 z).wf = true) : In64 z := by
  have h1 : IntKind.i64.min = -9223372036854775808 := rfl
  have h2 : IntKind.i64.max = 9223372036854775807 := rfl
  simp only [Lit.wf, Bool.and_eq_true, decide_eq_true_eq] at h
  unfold In64
  omega
theorem elTy_int {e : TypeId} (hu : P.underlying e = some (.int .i64)) (hc : P.cellsOf e = 1) : ElTy P e tInt In64 :=
  ⟨hc, by decide, fun _ _ _ _ _ h => by obtain ⟨z, rfl, _, hw⟩ := DataW.trod_int hu h; exact ⟨z, rfl, in64_of hw⟩⟩

/-! ### The arguments read afterwards as before -/
theorem trodAll_below {W W' : World} (hl : laidOutB P = true) (hb : Below W.heap.size W W') : ∀ {ts : List TypeId} {vs : List Value} {ds : List (DataW H)} {ps : List MemPlace}, (∀ t ∈ ts, P.readableRec t = true ∧ t < P.types.size) →
    DataW.TrodAll enc P W 0 (fun _ => true) true ts vs ds ps → DataW.TrodAll enc P W' 0 (fun b => decide (b < W.heap.size)) true ts vs ds ps
  | [], [], [], _, _, h => h
  | t :: ts, v :: vs, d :: ds, ps, ht, h => by
    obtain ⟨p, q, h1, h2, rfl⟩ := h
    refine ⟨p, q, ?_, trodAll_below hl hb (fun t ht' => ht t (by simp [ht'])) h2, rfl⟩
    obtain ⟨g1, g2⟩ := ht t (by simp)
    exact Below.trod hl g1 g2 h1 hb (by obtain ⟨m, hm⟩ := h1; exact DataW.trod_lt m _ _ _ hm)
  | [], [], _ :: _, _, _, h => h.elim
  | [], _ :: _, _, _, _, h => by cases ‹List (DataW H)› <;> exact h.elim
  | _ :: _, [], _, _, _, h => by cases ‹List (DataW H)› <;> exact h.elim
  | _ :: _, _ :: _, [], _, _, h => h.elim
end
end Go.Sx

/- Comparing structs. -/
namespace Go.Sx
open Go.RowKit
variable {P : Program} {n : Nat} {w0 : World} {r : Option Nat} {ds : List Deferred} {F : List (Nat × Value)} {H : List Ent}
/-- The fields compare so. -/
def FE (P : Program) (xs ys : Array Value) (fs : List Field) (r : Bool) : Prop := ∀ d w, (Op.eqFields (d + 1) xs ys fs).run P w = .ok r w
theorem FE.nil {xs ys : Array Value} : FE P xs ys [] true := fun d w => by simp [Op.eqFields]
theorem FE.cons {xs ys : Array Value} {f : Field} {fs : List Field} {a b : Value} {r s : Bool} (hn : f.name ≠ "_") (hp : P.plainKey f.type = true) (hx : xs[f.offset]? = some a) (hy : ys[f.offset]? = some b) (he : ∀ d w, (Op.equalIn (d + 1) f.type a b).run P w = .ok s w)
    (h : FE P xs ys fs r) : FE P xs ys (f :: fs) (s && r) := fun d w => by
  simp only [Op.eqFields, hn, ne_eq, not_false_eq_true, if_true, Sem.run_bind, run_part_plain w hp hx, run_part_plain w hp hy, he, Result.andThen_ok]
  cases s
  · simp
  · simpa using h d w
theorem FE.int {xs ys : Array Value} {f : Field} {fs : List Field} {k : IntKind} {a b : Int} {r : Bool} (hn : f.name ≠ "_") (hu : P.underlying f.type = some (.int k)) (hx : xs[f.offset]? = some (.int k a)) (hy : ys[f.offset]? = some (.int k b))
    (h : FE P xs ys fs r) : FE P xs ys (f :: fs) ((a == b) && r) :=
  FE.cons hn (by simp [Program.plainKey, hu]) hx hy (fun d w => by simp [Op.equalIn, run_underlying hu]) h
theorem FE.int1 {xs ys : Array Value} {f : Field} {k : IntKind} {a b : Int} (hn : f.name ≠ "_") (hu : P.underlying f.type = some (.int k)) (hx : xs[f.offset]? = some (.int k a)) (hy : ys[f.offset]? = some (.int k b)) : FE P xs ys [f] (a == b) := by
  have := FE.int hn hu hx hy (FE.nil (P := P) (xs := xs) (ys := ys))
  simpa using this
theorem FE.bool {xs ys : Array Value} {f : Field} {fs : List Field} {a b : Bool} {r : Bool} (hn : f.name ≠ "_") (hu : P.underlying f.type = some .bool) (hx : xs[f.offset]? = some (.bool a)) (hy : ys[f.offset]? = some (.bool b))
    (h : FE P xs ys fs r) : FE P xs ys (f :: fs) ((a == b) && r) :=
  FE.cons hn (by simp [Program.plainKey, hu]) hx hy (fun d w => by simp [Op.equalIn, run_underlying hu]) h
theorem FE.bool1 {xs ys : Array Value} {f : Field} {a b : Bool} (hn : f.name ≠ "_") (hu : P.underlying f.type = some .bool) (hx : xs[f.offset]? = some (.bool a)) (hy : ys[f.offset]? = some (.bool b)) : FE P xs ys [f] (a == b) := by
  have := FE.bool hn hu hx hy (FE.nil (P := P) (xs := xs) (ys := ys))
  simpa using this
/-- Two structs compare so. -/
def EqS (P : Program) (t : TypeId) (xs ys : List Value) (r : Bool) : Prop := P.eqGuardType P.depth t = false ∧ ∀ d w, (Op.equalIn (d + 2) t (.agg xs.toArray) (.agg ys.toArray)).run P w = .ok r w
theorem EqS.mk' {t : TypeId} {xs ys : List Value} {r : Bool} {fs : List Field} (hg : P.eqGuardType P.depth t = false) (ht : P.underlying t = some (.struct fs.toArray)) (hp : P.stoodInHeld t = false) (h : FE P xs.toArray ys.toArray fs r) : EqS P t xs ys r := by
  have hf : P.fieldsOf t = fs.toArray := by simp [Program.fieldsOf, ht]
  refine ⟨hg, fun d w => ?_⟩
  rw [run_equalIn_struct w (d + 1) t _ _ (by rw [hf]; exact ht) hp, hf]
  exact h d w
variable {ty : TypeId} {pos : String} {after : Array Edge} {guard : Option (Nat × Bool)} {dst : Option Tmp} {tx tY : TypeId} {x y : Operand}
theorem p_eqStruct {xs ys : List Value} {r : Bool} (hx : ev F x = some (.agg xs.toArray)) (hy : ev F y = some (.agg ys.toArray)) (h : EqS P tx xs ys r) : Pure ds P n w0 ⟨dst, .binOp .eql tx x y tY, ty, pos, after, guard⟩ F H (.bool r) := fun a w ha _ => by
  simp [execOp, ha.eval hx, ha.eval hy, run_eqGuard_agg w _ _ _ _ _ _ h.1, run_eql_struct, h.2 9998]
theorem p_neStruct {xs ys : List Value} {r : Bool} (hx : ev F x = some (.agg xs.toArray)) (hy : ev F y = some (.agg ys.toArray)) (h : EqS P tx xs ys r) : Pure ds P n w0 ⟨dst, .binOp .neq tx x y tY, ty, pos, after, guard⟩ F H (.bool (!r)) := fun a w ha _ => by
  have h2 : (Op.equal tx (.agg xs.toArray) (.agg ys.toArray)).run P w = .ok r w := h.2 9998 w
  simp [execOp, ha.eval hx, ha.eval hy, run_eqGuard_agg w _ _ _ _ _ _ h.1, binOp, h2]

/-! ### A struct that came in -/
section
open Go.ChangeShapes Go.WideShapes
theorem open_agg {α Hh : Type} {enc : TypeId × Value → Hh} {w : World} {T : Ty α} {WF : α → Prop} {t : TypeId} {v : Value} {dd : DataW Hh} {ps : List MemPlace} {b0 : Nat} {r : Reach} {fs : Array Field} (ht : P.underlying t = some (.struct fs)) (hT : ElTy P t T WF)
    (hv : Value.okWide P w r b0 t v) (h : DataW.Trod enc P w 0 (fun _ => true) true t v dd ps) : ∃ z, v = .agg (T.enc z).toArray ∧ WF z := by
  obtain ⟨cs, rfl, _⟩ := okWide_struct ht hv
  obtain ⟨m, hm⟩ := h
  obtain ⟨z, e, hz⟩ := hT.2.2 enc w m _ _ hm
  refine ⟨z, ?_, hz⟩
  simp only [Value.cells] at e
  rw [← e]
end

/-! ### The ways of a condition meet again -/
theorem c_join {Q : Exit → Act → World → Prop} {c : Code} {G : Type} (FE : G → List (Nat × Value)) (HE : G → List Ent) (I : G → Prop) (hr_ : ∀ K : Act → World → Prop, (∀ g, I g → ∀ a w, Ok n ds (FE g) a → HeapIs w0 (HE g) w → K a w) → SC r ds P n w0 (Exit.then K Q) c F H) (k : ∀ g, I g → SQ ds n w0 Q .normal (FE g) (HE g)) : SC r ds P n w0 Q c F H := fun a w ha hw =>
  wpC_mono (fun e a' w' h => by
    cases e with
    | normal => obtain ⟨g, h0, h1, h2⟩ := h; exact k g h0 a' w' h1 h2
    | _ => exact h) (hr_ (fun a' w' => ∃ g, I g ∧ Ok n ds (FE g) a' ∧ HeapIs w0 (HE g) w') (fun g h0 a' w' h1 h2 => ⟨g, h0, h1, h2⟩) a w ha hw)
theorem q_join {Q : Exit → Act → World → Prop} {G : Type} {FE : G → List (Nat × Value)} {HE : G → List Ent} {I : G → Prop} {K : Act → World → Prop} (hK : ∀ g, I g → ∀ a w, Ok n ds (FE g) a → HeapIs w0 (HE g) w → K a w) (g : G) (hI : I g) (hF : Sub F (FE g)) (hH : ∀ w, HeapIs w0 H w → HeapIs w0 (HE g) w) : SQ ds n w0 (Exit.then K Q) .normal F H :=
  fun _ w ha hw => hK g hI _ w (ha.sub hF) (hH w hw)

/-! ### Builtins on whole numbers -/
theorem p_max {ats : Array TypeId} {k : IntKind} {p q : Int} (hx : ev F x = some (.int k p)) (hy : ev F y = some (.int k q)) : Pure ds P n w0 ⟨dst, .call { callee := .builtin .max, args := #[x, y], argTypes := ats }, ty, pos, after, guard⟩ F H (.int k (max p q)) := fun b w hb _ => by
  have e : (if p < q then q else p) = max p q := by omega
  simp [execOp, resolve, invoke, builtin, Builtin.max_, Builtin.max2, hb.eval hx, hb.eval hy, e]
theorem p_min {ats : Array TypeId} {k : IntKind} {p q : Int} (hx : ev F x = some (.int k p)) (hy : ev F y = some (.int k q)) : Pure ds P n w0 ⟨dst, .call { callee := .builtin .min, args := #[x, y], argTypes := ats }, ty, pos, after, guard⟩ F H (.int k (min p q)) := fun b w hb _ => by
  have e : (if q < p then q else p) = min p q := by omega
  simp [execOp, resolve, invoke, builtin, Builtin.min_, Builtin.min2, hb.eval hx, hb.eval hy, e]
end Go.Sx

/- Numbers of 64 bits without a sign; bits; shifts; conversions; the bytes of a string. -/
namespace Go.Sx
open Go.RowKit
section
variable {P : Program} {n : Nat} {w0 : World} {r : Option Nat} {ds : List Deferred} {F : List (Nat × Value)} {H : List Ent} {ty : TypeId} {pos : String} {after : Array Edge} {guard : Option (Nat × Bool)} {dst : Option Tmp} {tx tY : TypeId} {x y : Operand}
theorem wrapU (m : Nat) : IntKind.u64.wrap (m : Int) = ((m % 18446744073709551616 : Nat) : Int) := by
  simp [IntKind.wrap, IntKind.bits, IntKind.signed]
theorem wrapU_lt {m : Nat} (h : m < 18446744073709551616) : IntKind.u64.wrap (m : Int) = (m : Int) := by rw [wrapU, Nat.mod_eq_of_lt h]
theorem ofInt_u64 (p : UInt64) : BitVec.ofInt 64 (p.toNat : Int) = p.toBitVec := by
  apply BitVec.eq_of_toNat_eq
  rw [BitVec.toNat_ofInt]
  have := p.toNat_lt
  show ((p.toNat : Int) % (18446744073709551616 : Nat)).toNat = p.toNat
  omega
variable {p q : UInt64}
theorem pu_add (hx : ev F x = some (.int .u64 (p.toNat : Int))) (hy : ev F y = some (.int .u64 (q.toNat : Int))) : Pure ds P n w0 ⟨dst, .binOp .add tx x y tY, ty, pos, after, guard⟩ F H (.int .u64 ((p + q).toNat : Int)) := by
  have := p_add (P := P) (n := n) (w0 := w0) (ds := ds) (dst := dst) (tx := tx) (tY := tY) (ty := ty) (pos := pos) (after := after) (guard := guard) (H := H) hx hy
  rwa [← Int.natCast_add, wrapU, show (p.toNat + q.toNat) % 18446744073709551616 = (p + q).toNat from (UInt64.toNat_add p q).symm] at this
theorem pu_mul (hx : ev F x = some (.int .u64 (p.toNat : Int))) (hy : ev F y = some (.int .u64 (q.toNat : Int))) : Pure ds P n w0 ⟨dst, .binOp .mul tx x y tY, ty, pos, after, guard⟩ F H (.int .u64 ((p * q).toNat : Int)) := by
  have := p_mul (P := P) (n := n) (w0 := w0) (ds := ds) (dst := dst) (tx := tx) (tY := tY) (ty := ty) (pos := pos) (after := after) (guard := guard) (H := H) hx hy
  rwa [← Int.natCast_mul, wrapU, show (p.toNat * q.toNat) % 18446744073709551616 = (p * q).toNat from (UInt64.toNat_mul p q).symm] at this
theorem pu_sub (hx : ev F x = some (.int .u64 (p.toNat : Int))) (hy : ev F y = some (.int .u64 (q.toNat : Int))) : Pure ds P n w0 ⟨dst, .binOp .sub tx x y tY, ty, pos, after, guard⟩ F H (.int .u64 ((p - q).toNat : Int)) := by
  have := p_sub (P := P) (n := n) (w0 := w0) (ds := ds) (dst := dst) (tx := tx) (tY := tY) (ty := ty) (pos := pos) (after := after) (guard := guard) (H := H) hx hy
  have e : IntKind.u64.wrap ((p.toNat : Int) - (q.toNat : Int)) = ((p - q).toNat : Int) := by
    rw [UInt64.toNat_sub]
    have h1 := p.toNat_lt; have h2 := q.toNat_lt
    simp [IntKind.wrap, IntKind.bits, IntKind.signed]
    omega
  rwa [e] at this
theorem pu_xor (hx : ev F x = some (.int .u64 (p.toNat : Int))) (hy : ev F y = some (.int .u64 (q.toNat : Int))) : Pure ds P n w0 ⟨dst, .binOp .xor tx x y tY, ty, pos, after, guard⟩ F H (.int .u64 ((p ^^^ q).toNat : Int)) := fun a w ha _ => by
  have e : IntKind.u64.wrap (((BitVec.ofInt 64 (p.toNat : Int) ^^^ BitVec.ofInt 64 (q.toNat : Int)).toNat : Nat) : Int) = ((p ^^^ q).toNat : Int) := by
    rw [ofInt_u64, ofInt_u64]; exact wrapU_lt (p ^^^ q).toNat_lt
  have h : (Op.intBits .xor .u64 (p.toNat : Int) (q.toNat : Int)) = (pure (.int .u64 ((p ^^^ q).toNat : Int)) : Sem Value) := by rw [← e]; rfl
  simp [execOp, ha.eval hx, ha.eval hy, eqGuard, binOp, h]
theorem pu_and (hx : ev F x = some (.int .u64 (p.toNat : Int))) (hy : ev F y = some (.int .u64 (q.toNat : Int))) : Pure ds P n w0 ⟨dst, .binOp .and tx x y tY, ty, pos, after, guard⟩ F H (.int .u64 ((p &&& q).toNat : Int)) := fun a w ha _ => by
  have e : IntKind.u64.wrap (((BitVec.ofInt 64 (p.toNat : Int) &&& BitVec.ofInt 64 (q.toNat : Int)).toNat : Nat) : Int) = ((p &&& q).toNat : Int) := by
    rw [ofInt_u64, ofInt_u64]; exact wrapU_lt (p &&& q).toNat_lt
  have h : (Op.intBits .and .u64 (p.toNat : Int) (q.toNat : Int)) = (pure (.int .u64 ((p &&& q).toNat : Int)) : Sem Value) := by rw [← e]; rfl
  simp [execOp, ha.eval hx, ha.eval hy, eqGuard, binOp, h]
theorem pu_or (hx : ev F x = some (.int .u64 (p.toNat : Int))) (hy : ev F y = some (.int .u64 (q.toNat : Int))) : Pure ds P n w0 ⟨dst, .binOp .or tx x y tY, ty, pos, after, guard⟩ F H (.int .u64 ((p ||| q).toNat : Int)) := fun a w ha _ => by
  have e : IntKind.u64.wrap (((BitVec.ofInt 64 (p.toNat : Int) ||| BitVec.ofInt 64 (q.toNat : Int)).toNat : Nat) : Int) = ((p ||| q).toNat : Int) := by
    rw [ofInt_u64, ofInt_u64]; exact wrapU_lt (p ||| q).toNat_lt
  have h : (Op.intBits .or .u64 (p.toNat : Int) (q.toNat : Int)) = (pure (.int .u64 ((p ||| q).toNat : Int)) : Sem Value) := by rw [← e]; rfl
  simp [execOp, ha.eval hx, ha.eval hy, eqGuard, binOp, h]
/-- The bits that two whole numbers share. -/
def andI (p q : Int) : Int := IntKind.i64.wrap ((BitVec.ofInt 64 p &&& BitVec.ofInt 64 q).toNat : Int)
theorem p_andI {p q : Int} (hx : ev F x = some (.int .i64 p)) (hy : ev F y = some (.int .i64 q)) : Pure ds P n w0 ⟨dst, .binOp .and tx x y tY, ty, pos, after, guard⟩ F H (.int .i64 (andI p q)) := fun a w ha _ => by
  have h : (Op.intBits .and .i64 p q) = (pure (.int .i64 (andI p q)) : Sem Value) := rfl
  simp [execOp, ha.eval hx, ha.eval hy, eqGuard, binOp, h]
theorem andI_low (p : Int) (m : Nat) (h : m < 9223372036854775808) : 0 ≤ andI p m ∧ andI p m ≤ m := by
  have e : (BitVec.ofInt 64 (m : Int)).toNat = m := by rw [BitVec.toNat_ofInt]; show ((m : Int) % (18446744073709551616 : Nat)).toNat = m; omega
  have h2 : (BitVec.ofInt 64 p &&& BitVec.ofInt 64 (m : Int)).toNat ≤ m := by
    rw [BitVec.toNat_and, e]; exact Nat.and_le_right
  unfold andI
  rw [wrap_i64 (by omega)]
  omega
/-- A shift to the right. -/
def shrU (p : UInt64) (m : Nat) : UInt64 := UInt64.ofNat (p.toNat / 2 ^ min m 64)
theorem shrU_toNat (p : UInt64) (m : Nat) : (shrU p m).toNat = p.toNat / 2 ^ min m 64 := by
  unfold shrU
  show (p.toNat / 2 ^ min m 64) % 2 ^ 64 = _
  exact Nat.mod_eq_of_lt (Nat.lt_of_le_of_lt (Nat.div_le_self _ _) p.toNat_lt)
theorem shrU_eq (p q : UInt64) (h : q.toNat < 64) : shrU p q.toNat = p >>> q := by
  apply UInt64.toNat_inj.1
  rw [shrU_toNat, UInt64.toNat_shiftRight, Nat.mod_eq_of_lt h, Nat.shiftRight_eq_div_pow, Nat.min_eq_left (by omega)]
theorem pu_shr {k : IntKind} {m : Nat} {z : Int} (hx : ev F x = some (.int .u64 (p.toNat : Int))) (hy : ev F y = some (.int k z)) (hz : z = (m : Int)) : Pure ds P n w0 ⟨dst, .binOp .shr tx x y tY, ty, pos, after, guard⟩ F H (.int .u64 ((shrU p m).toNat : Int)) := fun a w ha _ => by
  subst hz
  have e : ((p.toNat : Int).fdiv (2 ^ min m 64)) = ((shrU p m).toNat : Int) := by
    rw [shrU_toNat, Int.fdiv_eq_ediv_of_nonneg _ (by exact_mod_cast Nat.zero_le _)]; simp
  have h : (Op.shift .shr .u64 (p.toNat : Int) k (m : Int)) = (pure (.int .u64 ((shrU p m).toNat : Int)) : Sem Value) := by
    unfold Op.shift
    rw [if_neg (by omega)]
    show (pure (.int .u64 ((p.toNat : Int).fdiv (2 ^ min m 64))) : Sem Value) = _
    rw [e]
  simp [execOp, ha.eval hx, ha.eval hy, eqGuard, binOp, h]
theorem pu_eq (hx : ev F x = some (.int .u64 (p.toNat : Int))) (hy : ev F y = some (.int .u64 (q.toNat : Int))) : Pure ds P n w0 ⟨dst, .binOp .eql tx x y tY, ty, pos, after, guard⟩ F H (.bool (p == q)) := by
  have := p_eq (P := P) (n := n) (w0 := w0) (ds := ds) (dst := dst) (tx := tx) (tY := tY) (ty := ty) (pos := pos) (after := after) (guard := guard) (H := H) hx hy
  have e : ((p.toNat : Int) == (q.toNat : Int)) = (p == q) := by
    rw [Bool.eq_iff_iff, beq_iff_eq, beq_iff_eq, ← UInt64.toNat_inj]; omega
  rwa [e] at this
theorem pu_ne (hx : ev F x = some (.int .u64 (p.toNat : Int))) (hy : ev F y = some (.int .u64 (q.toNat : Int))) : Pure ds P n w0 ⟨dst, .binOp .neq tx x y tY, ty, pos, after, guard⟩ F H (.bool (p != q)) := by
  have := p_ne (P := P) (n := n) (w0 := w0) (ds := ds) (dst := dst) (tx := tx) (tY := tY) (ty := ty) (pos := pos) (after := after) (guard := guard) (H := H) hx hy
  have e : ((p.toNat : Int) != (q.toNat : Int)) = (p != q) := by
    rw [Bool.eq_iff_iff, bne_iff_ne, bne_iff_ne, ne_eq, ne_eq, ← UInt64.toNat_inj]; omega
  rwa [e] at this
theorem ltU : decide ((p.toNat : Int) < (q.toNat : Int)) = decide (p < q) := by
  rw [Bool.eq_iff_iff, decide_eq_true_eq, decide_eq_true_eq, UInt64.lt_iff_toNat_lt]; omega
theorem leU : decide ((p.toNat : Int) ≤ (q.toNat : Int)) = decide (p ≤ q) := by
  rw [Bool.eq_iff_iff, decide_eq_true_eq, decide_eq_true_eq, UInt64.le_iff_toNat_le]; omega
theorem pu_lt (hx : ev F x = some (.int .u64 (p.toNat : Int))) (hy : ev F y = some (.int .u64 (q.toNat : Int))) : Pure ds P n w0 ⟨dst, .binOp .lss tx x y tY, ty, pos, after, guard⟩ F H (.bool (decide (p < q))) := by
  have := p_lt (P := P) (n := n) (w0 := w0) (ds := ds) (dst := dst) (tx := tx) (tY := tY) (ty := ty) (pos := pos) (after := after) (guard := guard) (H := H) hx hy
  rwa [ltU] at this
theorem pu_le (hx : ev F x = some (.int .u64 (p.toNat : Int))) (hy : ev F y = some (.int .u64 (q.toNat : Int))) : Pure ds P n w0 ⟨dst, .binOp .leq tx x y tY, ty, pos, after, guard⟩ F H (.bool (decide (p ≤ q))) := by
  have := p_le (P := P) (n := n) (w0 := w0) (ds := ds) (dst := dst) (tx := tx) (tY := tY) (ty := ty) (pos := pos) (after := after) (guard := guard) (H := H) hx hy
  rwa [leU] at this
theorem pu_gt (hx : ev F x = some (.int .u64 (p.toNat : Int))) (hy : ev F y = some (.int .u64 (q.toNat : Int))) : Pure ds P n w0 ⟨dst, .binOp .gtr tx x y tY, ty, pos, after, guard⟩ F H (.bool (decide (q < p))) := by
  have := p_gt (P := P) (n := n) (w0 := w0) (ds := ds) (dst := dst) (tx := tx) (tY := tY) (ty := ty) (pos := pos) (after := after) (guard := guard) (H := H) hx hy
  rwa [ltU] at this
theorem pu_ge (hx : ev F x = some (.int .u64 (p.toNat : Int))) (hy : ev F y = some (.int .u64 (q.toNat : Int))) : Pure ds P n w0 ⟨dst, .binOp .geq tx x y tY, ty, pos, after, guard⟩ F H (.bool (decide (q ≤ p))) := by
  have := p_ge (P := P) (n := n) (w0 := w0) (ds := ds) (dst := dst) (tx := tx) (tY := tY) (ty := ty) (pos := pos) (after := after) (guard := guard) (H := H) hx hy
  rwa [leU] at this
/-! ### Division -/
theorem pu_quo (hx : ev F x = some (.int .u64 (p.toNat : Int))) (hy : ev F y = some (.int .u64 (q.toNat : Int))) (h0 : q ≠ 0) : Pure ds P n w0 ⟨dst, .binOp .quo tx x y tY, ty, pos, after, guard⟩ F H (.int .u64 ((p / q).toNat : Int)) := by
  have hq : (q.toNat : Int) ≠ 0 := fun h => h0 (UInt64.toNat_inj.1 (by simpa using h))
  have := p_quo (P := P) (n := n) (w0 := w0) (ds := ds) (dst := dst) (tx := tx) (tY := tY) (ty := ty) (pos := pos) (after := after) (guard := guard) (H := H) hx hy hq
  have e : IntKind.u64.wrap ((p.toNat : Int).tdiv (q.toNat : Int)) = ((p / q).toNat : Int) := by
    rw [Int.tdiv_eq_ediv_of_nonneg (by omega), ← Int.natCast_ediv, UInt64.toNat_div]
    exact wrapU_lt (Nat.lt_of_le_of_lt (Nat.div_le_self _ _) p.toNat_lt)
  rwa [e] at this
theorem pu_rem (hx : ev F x = some (.int .u64 (p.toNat : Int))) (hy : ev F y = some (.int .u64 (q.toNat : Int))) (h0 : q ≠ 0) : Pure ds P n w0 ⟨dst, .binOp .rem tx x y tY, ty, pos, after, guard⟩ F H (.int .u64 ((p % q).toNat : Int)) := by
  have hq : (q.toNat : Int) ≠ 0 := fun h => h0 (UInt64.toNat_inj.1 (by simpa using h))
  have := p_rem (P := P) (n := n) (w0 := w0) (ds := ds) (dst := dst) (tx := tx) (tY := tY) (ty := ty) (pos := pos) (after := after) (guard := guard) (H := H) hx hy hq
  have e : ((p.toNat : Int).tmod (q.toNat : Int)) = ((p % q).toNat : Int) := by
    rw [Int.tmod_eq_emod_of_nonneg (by omega), ← Int.natCast_emod, UInt64.toNat_mod]
  rwa [e] at this

/-! ### Conversions of whole numbers -/
theorem p_conv {k k' : IntKind} {z : Int} {ts td : TypeId} {dk : TypeDesc} (hx : ev F x = some (.int k z)) (hs : P.underlying ts = some dk) (hd : P.underlying td = some (.int k')) : Pure ds P n w0 ⟨dst, .convert ts td x, ty, pos, after, guard⟩ F H (.int k' (k'.wrap z)) := fun a w ha _ => by
  simp [execOp, ha.eval hx, convert, run_bind, run_underlying hs, run_underlying hd, Conv.intToInt]
/-- A whole number as one of 64 bits without a sign. -/
def toU (z : Int) : UInt64 := UInt64.ofNat (z % 18446744073709551616).toNat
theorem toU_toNat (z : Int) : ((toU z).toNat : Int) = z % 18446744073709551616 := by
  have : (toU z).toNat = (z % 18446744073709551616).toNat % 2 ^ 64 := rfl
  omega
theorem wrapU_int (z : Int) : IntKind.u64.wrap z = ((toU z).toNat : Int) := by
  rw [toU_toNat]; simp [IntKind.wrap, IntKind.bits, IntKind.signed]
theorem pu_conv {k : IntKind} {z : Int} {ts td : TypeId} {dk : TypeDesc} (hx : ev F x = some (.int k z)) (hs : P.underlying ts = some dk) (hd : P.underlying td = some (.int .u64)) : Pure ds P n w0 ⟨dst, .convert ts td x, ty, pos, after, guard⟩ F H (.int .u64 ((toU z).toNat : Int)) := by
  rw [← wrapU_int]; exact p_conv hx hs hd
theorem pu_convU {ts td : TypeId} {dk : TypeDesc} (hx : ev F x = some (.int .u64 (p.toNat : Int))) (hs : P.underlying ts = some dk) (hd : P.underlying td = some (.int .u64)) : Pure ds P n w0 ⟨dst, .convert ts td x, ty, pos, after, guard⟩ F H (.int .u64 (p.toNat : Int)) := by
  have h := p_conv (P := P) (n := n) (w0 := w0) (ds := ds) (dst := dst) (ty := ty) (pos := pos) (after := after) (guard := guard) (H := H) hx hs hd
  rwa [wrapU_lt p.toNat_lt] at h
theorem pu_convB {c : UInt8} {ts td : TypeId} {dk : TypeDesc} (hx : ev F x = some (.int .u8 (c.toNat : Int))) (hs : P.underlying ts = some dk) (hd : P.underlying td = some (.int .u64)) : Pure ds P n w0 ⟨dst, .convert ts td x, ty, pos, after, guard⟩ F H (.int .u64 ((c.toUInt64).toNat : Int)) := by
  have h := p_conv (P := P) (n := n) (w0 := w0) (ds := ds) (dst := dst) (ty := ty) (pos := pos) (after := after) (guard := guard) (H := H) hx hs hd
  have hc : c.toNat < 256 := c.toNat_lt
  rwa [wrapU_lt (by omega)] at h

theorem u64_of {z : Int} (h : (Lit.int .u64 z).wf = true) : ∃ u : UInt64, z = (u.toNat : Int) := by
  have h1 : IntKind.u64.min = 0 := rfl
  have h2 : IntKind.u64.max = 18446744073709551615 := rfl
  simp only [Lit.wf, Bool.and_eq_true, decide_eq_true_eq] at h
  exact ⟨toU z, by rw [toU_toNat]; omega⟩

/-! ### The bytes of a string -/
def byteAt (s : ByteArray) (i : Nat) : UInt8 := s.data.getD i 0
theorem p_indexStr {s : ByteArray} {z : Int} {i : Nat} {t : TypeId} {k : IntKind} (hx : ev F x = some (.string s)) (hy : ev F y = some (.int k z)) (hu : P.underlying t = some .string) (hz : z = (i : Int)) (hi : i < s.size) : Pure ds P n w0 ⟨dst, .index t x y, ty, pos, after, guard⟩ F H (.int .u8 ((byteAt s i).toNat : Int)) := fun a w ha _ => by
  subst hz
  have e : s[(i : Int).toNat]? = some (byteAt s i) := by
    rw [Int.toNat_natCast, getElem?_pos s i hi]
    have hs : i < s.data.size := hi
    have : byteAt s i = s.data[i] := by simp [byteAt, Array.getD, hi]
    rw [this]; rfl
  have h0 : (0 : Int) ≤ (i : Int) := by omega
  simp only [Int.toNat_natCast] at e
  simp [execOp, Instr.index, ha.eval hx, ha.eval hy, run_bind, run_underlying hu, asIntOf, e]
end
end Go.Sx

/- Strings: sums and comparisons. -/
namespace Go.Sx
open Go.RowKit
section
variable {P : Program} {n : Nat} {w0 : World} {r : Option Nat} {ds : List Deferred} {F : List (Nat × Value)} {H : List Ent}
variable {ty : TypeId} {pos : String} {after : Array Edge} {guard : Option (Nat × Bool)} {dst : Option Tmp} {x y : Operand} {tx tY : TypeId} {s t : ByteArray}
theorem bytes_beq : (s.toList == t.toList) = decide (s = t) := by
  rw [Bool.eq_iff_iff, beq_iff_eq, decide_eq_true_eq, ByteArray.toList_eq, ByteArray.toList_eq]
  exact ⟨fun h => ByteArray.ext (Array.ext' h), fun h => by rw [h]⟩
theorem p_addStr (hx : ev F x = some (.string s)) (hy : ev F y = some (.string t)) (hb : s.size + t.size ≤ 9223372036854775807) : Pure ds P n w0 ⟨dst, .binOp .add tx x y tY, ty, pos, after, guard⟩ F H (.string (s ++ t)) := fun a w ha _ => by
  have h : ¬ (((s.size + t.size : Nat) : Int) > IntKind.i64.max) := by
    have : IntKind.i64.max = 9223372036854775807 := rfl
    omega
  have h2 : ¬ (9223372036854775807 < (s.size : Int) + (t.size : Int)) := by omega
  simp [execOp, ha.eval hx, ha.eval hy, binOp, Op.stringOp, eqGuard, h2]
theorem p_eqStr (hx : ev F x = some (.string s)) (hy : ev F y = some (.string t)) : Pure ds P n w0 ⟨dst, .binOp .eql tx x y tY, ty, pos, after, guard⟩ F H (.bool (decide (s = t))) := fun a w ha _ => by
  have h := bytes_beq (s := s) (t := t)
  simp [execOp, ha.eval hx, ha.eval hy, binOp, Op.stringOp, eqGuard, h]
theorem p_neStr (hx : ev F x = some (.string s)) (hy : ev F y = some (.string t)) : Pure ds P n w0 ⟨dst, .binOp .neq tx x y tY, ty, pos, after, guard⟩ F H (.bool (!decide (s = t))) := fun a w ha _ => by
  have h := bytes_beq (s := s) (t := t)
  simp [execOp, ha.eval hx, ha.eval hy, binOp, Op.stringOp, eqGuard, h]
end
end Go.Sx
