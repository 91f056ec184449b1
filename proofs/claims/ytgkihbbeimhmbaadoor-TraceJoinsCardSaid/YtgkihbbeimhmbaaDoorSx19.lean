/- A range over a function: the rounds, the functions that call yield, and how a function that holds such a loop ends. -/
import Derived.Test.YtgkihbbeimhmbaaDoorSx18
import Derived.OrdersIn
namespace Go.Sx
open Go.RowKit
section
variable {P : Program} {n : Nat} {w0 : World} {r : Option Nat} {ds : List Deferred} {Q : Exit → Act → World → Prop} {F F' : List (Nat × Value)} {H H' : List Ent} {ops : Array Oper}
variable {ty : TypeId} {pos : String} {after : Array Edge} {guard : Option (Nat × Bool)} {dst : Option Tmp} {rest : List Oper} {d : Nat} {x y : Operand}

/-! ### Regions that draw their order, within a round -/
def noDefer (o : Oper) : Bool := match o.op with | .defer _ => false | _ => true
theorem noDefer_spec {l : List Oper} (h : l.all noDefer = true) : ∀ (i : Nat) (o : Oper), l.toArray[i]? = some o → ∀ c, o.op ≠ .defer c := by
  intro i o ho c hc
  have := List.all_eq_true.1 h o (by rw [List.getElem?_toArray] at ho; exact List.mem_of_getElem? ho)
  simp [noDefer, hc] at this
theorem wpOps_in {q : Nat} (hno : ∀ a w, Q .outgrown a w → False) (hd : ∀ (i : Nat) (o : Oper), ops[i]? = some o → ∀ c, o.op ≠ .defer c) : ∀ (L : List Nat) (a : Act) (w : World), wpOps P ops Q L a w → wpOpsIn (fenceOf q) 0 P ops Q L a w
  | [], _, _, h => h
  | i :: rest, a, w, h => by
    cases ho : ops[i]? with
    | none =>
      simp only [wpOps, ho] at h
      simp only [wpOpsIn, ho]
      exact wpOps_in hno hd rest a w h
    | some o =>
      simp only [wpOps, ho] at h
      simp only [wpOpsIn, ho]
      by_cases hw : Region.wanted o (yielded ops a.tmps) = true
      · rw [if_pos hw] at h ⊢
        rcases h with h | ⟨_, a', w', h⟩
        · exact Oper.wpIn_mono (fun a w => wpOps_in hno hd rest a w) (op_in (hd i o ho) h)
        · exact (hno _ _ h).elim
      · rw [if_neg hw] at h ⊢
        exact ⟨fun _ _ => fenceOf_fn _ _, wpOps_in hno hd rest _ w h⟩
theorem c_heldR {id m q : Nat} {l : List Oper} {ls : Array Bool} (hm : P.follows .mixedOrders = true) (hd : l.all noDefer = true) (hno : ∀ a w, Q .outgrown a w → False) (Hr : List Ent) (hl : l.length = m) (hls : ls = Array.replicate m false) (h : SH ds P n w0 l.toArray Q Hr m ls F H) : SC (some q) ds P n w0 Q (.region id l.toArray true) F H := fun a w ha hw =>
  wpIn_region_draw fun t => wpOps_in hno (noDefer_spec hd) _ _ _ (by
    have := h a _ ha (hw.drew (w.drawn + 1))
    subst hl; subst hls
    simp only [Region.schedule, hm, Bool.true_or, if_true]
    exact wpAny_sound l.toArray.size t _ a _ (wpAny_of_held _ _ _ _ (by simpa using this)))
theorem c_drawR {id q : Nat} {l : List Oper} (hm : P.follows .mixedOrders = true) (hd : l.all noDefer = true) (hno : ∀ a w, Q .outgrown a w → False) (hB : Region.lexB .any l.toArray = true) (h : SW ds P n w0 l.toArray Q l F H) : SC (some q) ds P n w0 Q (.region id l.toArray true) F H := fun a w ha hw =>
  wpIn_region_draw fun t => wpOps_in hno (noDefer_spec hd) _ _ _ (by
    simp only [Region.schedule, hm, Bool.true_or, if_true]
    refine wpAny_sound l.toArray.size t _ a _ ?_
    simp only [Region.lexB, Bool.and_eq_true] at hB
    refine wpAny_of_quiet (C := HeapIs w0 H) (Q := fun a' => ∀ w', HeapIs w0 H w' → Q .normal a' w') (fun _ w' hw' h => h w' hw') _ _ _ _ (hw.drew _) ?_
    have := wpAnyQ_lex (C := HeapIs w0 H) (md := .any) hB.1 l.toArray.toList 0 (Array.replicate l.toArray.size false) a (by simp) (by simpa using hB.2) (by simpa using h a ha)
    simpa using this)

/-! ### Several entries as one -/
def pack (H : List Ent) : Ent := ⟨fun b => ∃ e ∈ H, e.S b, fun w => (∀ e ∈ H, e.Good w) ∧ H.Pairwise fun e f => Disj e.S f.S⟩
theorem Ent.Good.agree {e : Ent} {w1 w2 : World} (ha : Agree e.S w1 w2) (g : e.Good w1) : e.Good w2 :=
  ⟨g.stable, fun b hb => (by
    have h1 := g.bound b hb
    have h2 := ha b hb
    rcases Nat.lt_or_ge b w2.heap.size with h | h
    · exact h
    · rw [Array.getElem?_eq_none h, Array.getElem?_eq_getElem h1] at h2; cases h2), g.stable w1 w2 ha g.here⟩
theorem HeapIs.pack {R : List Ent} {w : World} (h : HeapIs w0 (H ++ R) w) : HeapIs w0 (Sx.pack H :: R) w := by
  have hp := List.pairwise_append.1 h.apart
  refine ⟨h.same, h.size, fun e he => ?_, List.pairwise_cons.2 ⟨fun f hf b hb hb' => ?_, hp.2.1⟩⟩
  · rcases List.mem_cons.1 he with rfl | he
    · exact ⟨fun w1 w2 ha hA => ⟨fun e he => (hA.1 e he).agree (fun b hb => ha b ⟨e, he, hb⟩), hA.2⟩, fun b ⟨e, he, hb⟩ => (h.good e (by simp [he])).bound b hb, fun e he => h.good e (by simp [he]), hp.1⟩
    · exact h.good e (by simp [he])
  · obtain ⟨e, he, hb⟩ := hb
    exact hp.2.2 e he f hf b hb hb'
theorem HeapIs.unpack {R : List Ent} {w : World} (h : HeapIs w0 (Sx.pack H :: R) w) : HeapIs w0 (H ++ R) w := by
  have hp := List.pairwise_cons.1 h.apart
  have hk := (h.good (Sx.pack H) (by simp)).here
  refine ⟨h.same, h.size, fun e he => ?_, List.pairwise_append.2 ⟨hk.2, hp.2, fun e he f hf b hb hb' => hp.1 f hf b ⟨e, he, hb⟩ hb'⟩⟩
  rcases List.mem_append.1 he with he | he
  · exact hk.1 e he
  · exact h.good e (by simp [he])

/-! ### The loop's record and the block for deferred calls -/
def objE (B : Nat) (o : Obj) : Ent := ⟨fun b => b = B, fun w => w.heap[B]? = some o⟩
def loopE (l : Nat) (rc : Loop) : Ent := objE l (.loop rc)
def defE (D : Nat) : Ent := objE D (.deferred (some []))
def recd (rc : Loop) (st : LoopState) (pe : Option Code) : Loop := { rc with state := st, pending := pe }
def mark (D : Nat) : Deferred := { target := .collected D, args := #[] }
theorem objE_st {B : Nat} {o : Obj} : ∀ w1 w2, Agree (objE B o).S w1 w2 → (objE B o).A w1 → (objE B o).A w2 := fun w1 w2 ha hA => (ha B rfl).trans hA
theorem HeapIs.putObj {w : World} {i B : Nat} {o o' : Obj} (h : HeapIs w0 H w) (hi : H[i]? = some (objE B o)) : HeapIs w0 (H.set i (objE B o')) (w.putObj B o') := by
  have hb : B < w.heap.size := (h.at hi).bound B rfl
  exact h.change hi ⟨rfl, rfl, rfl⟩ (by simp) (fun b hb => .inl hb) (fun b _ hb => World.putObj_heap_other hb) objE_st (World.putObj_heap_same hb)
theorem HeapIs.newObj {w : World} (h : HeapIs w0 H w) (o : Obj) : HeapIs w0 (objE w.heap.size o :: H) (w.alloc o) :=
  h.push o (fun w1 w2 ha hA => (ha _ rfl).trans hA) (World.alloc_heap_new w o)

/-! ### What an iterator promises -/
/-- The function f, called with yield and what it has captured, hands yield the values of the rounds 0 .. N - 1 one after another, until yield says no. e0: what the rounds may change; E: what the rounds may see of the iterator's own. -/
def ItOk (P : Program) (f : FuncId) (caps : List Value) (Pr : Ent → World → Prop) (X : Type) (encs : X → Nat → List Value) (E : X → Nat → List Ent) (N : Nat) : Prop :=
  ∀ (l : Nat) (φ : Nat → Ent → Prop) (ψ : Ent → Prop) (e0 : Ent) (w : World), HeapIs w [outer w [e0], e0] w → Pr e0 w → φ 0 e0 →
    (∀ x k e W, k < N → φ k e → HeapIs w (outer w [e0] :: e :: E x k) W → YieldAt Fence.wide 0 P l (encs x k).toArray W (fun en W' => ∃ b e', en = .returned (.bool b) ∧ (b = true → φ (k + 1) e') ∧ (b = false → ψ e') ∧ HeapIs w (outer w [e0] :: e' :: E x k) W')) →
    Calls P f (.func (.yield l) #[] #[] :: caps).toArray w (fun en W' => ∃ e', en = .returned (.tuple #[]) ∧ (φ N e' ∨ ψ e') ∧ HeapIs w [outer w [e0], e'] W')
def EndI (w0 : World) (e0 : Ent) (φ : Nat → Ent → Prop) (ψ : Ent → Prop) (N : Nat) : Ending → World → Prop := fun en W' => ∃ e', en = .returned (.tuple #[]) ∧ (φ N e' ∨ ψ e') ∧ HeapIs w0 [outer w0 [e0], e'] W'
theorem fnIt {f : FuncId} {fn : Func} {c : Code} {caps : List Value} {Pr : Ent → World → Prop} {X : Type} {encs : X → Nat → List Value} {E : X → Nat → List Ent} {N nt : Nat} {F1 : List (Nat × Value)} (hf : P.funcs[f]? = some fn) (hb : fn.body = some c) (hn : fn.ntmps = nt) (hle : Nat.ble (caps.length + 1) nt = true)
    (hF : F1 = (List.range' 1 caps.length).zip caps)
    (h : ∀ (l : Nat) (φ : Nat → Ent → Prop) (ψ : Ent → Prop) (e0 : Ent) (w0 : World), Pr e0 w0 → φ 0 e0 →
      (∀ x k e W, k < N → φ k e → HeapIs w0 (outer w0 [e0] :: e :: E x k) W → YieldAt Fence.wide 0 P l (encs x k).toArray W (fun en W' => ∃ b e', en = .returned (.bool b) ∧ (b = true → φ (k + 1) e') ∧ (b = false → ψ e') ∧ HeapIs w0 (outer w0 [e0] :: e' :: E x k) W')) →
      SC none [] P nt w0 (bodyPost P fn (EndI w0 e0 φ ψ N)) c ((0, .func (.yield l) #[] #[]) :: F1) [outer w0 [e0], e0]) : ItOk P f caps Pr X encs E N := fun l φ ψ e0 w hw hp h0 Y => by
  refine calls_of_wp hf hb ?_
  have e : (.func (.yield l) #[] #[] :: caps : List Value).toArray.size = caps.length + 1 := by simp
  have hle' : caps.length + 1 ≤ nt := Nat.le_of_ble_eq_true hle
  have ho := ok_begin (.func (.yield l) #[] #[] :: caps) (nt - (caps.length + 1))
  rw [show (.func (.yield l) #[] #[] :: caps : List Value).length + (nt - (caps.length + 1)) = nt by simp; omega] at ho
  have hz : (List.range (.func (.yield l) #[] #[] :: caps : List Value).length).zip (.func (.yield l) #[] #[] :: caps) = (0, .func (.yield l) #[] #[]) :: F1 := by
    rw [hF, List.range_eq_range', List.length_cons, List.range'_succ, List.zip_cons_cons]
  rw [hz] at ho
  rw [hn, e]
  exact h l φ ψ e0 w hp h0 Y _ w ho hw
theorem q_endI {fn : Func} {e0 e : Ent} {φ : Nat → Ent → Prop} {ψ : Ent → Prop} {N : Nat} (hr : ResT [] P n w0 F H fn (.tuple #[])) (he : φ N e ∨ ψ e) (hH : ∀ w, HeapIs w0 H w → HeapIs w0 [outer w0 [e0], e] w) : SQ [] n w0 (bodyPost P fn (EndI w0 e0 φ ψ N)) .ret F H := fun a w ha hw =>
  bodyPost_ret (hr a w ha hw) (by simp [ha.defers]) ⟨e, rfl, he, hH w hw⟩

/-- A region that calls yield. -/
theorem c_regionY {id : Nat} {l : List Oper} (h : SO (some 0) ds P n w0 l.toArray Q l F H) : SC none ds P n w0 Q (.region id l.toArray false) F H := fun a w ha hw =>
  (wpIn_wide (n := 0)).1 (wpIn_region_lit (h a w ha hw))
theorem run_callYield {l : Nat} {args : Array Operand} {ats : Array TypeId} {vs : List Value} {a : Act} {w : World} (ha : Ok n ds F a) (hx : ev F x = some (.func (.yield l) #[] #[])) (hv : evs F args.toList = some vs) {fn : FuncId} {tmps : Array Value} {assign body : Code} (hy : (Instr.yield l vs.toArray).run P w = .ok (.round l fn tmps assign body) w) :
    (execOp a.eval ⟨dst, .call { callee := .value x, args := args, argTypes := ats }, ty, pos, after, guard⟩).run P w = .ok (.round l fn tmps assign body) w := by
  have h1 : args.map a.eval = vs.toArray := by
    rw [← ha.evals hv]; apply Array.ext'; simp
  simp [execOp, resolve, h1, ha.eval hx, Deferred.ofValue, invoke, hy]
theorem o_yield {l : Nat} {args : Array Operand} {ats : Array TypeId} {vs : List Value} {e0 e : Ent} {Ex : List Ent} {φ ψ : Ent → Prop} (hx : ev F x = some (.func (.yield l) #[] #[])) (hv : evs F args.toList = some vs)
    (Y : ∀ W, HeapIs w0 (outer w0 [e0] :: e :: Ex) W → YieldAt Fence.wide 0 P l vs.toArray W (fun en W' => ∃ b e', en = .returned (.bool b) ∧ (b = true → φ e') ∧ (b = false → ψ e') ∧ HeapIs w0 (outer w0 [e0] :: e' :: Ex) W'))
    (hn : Nat.blt d n = true) (h1 : ∀ e', φ e' → SO (some 0) ds P n w0 ops Q rest ((d, .bool true) :: F) (outer w0 [e0] :: e' :: Ex)) (h2 : ∀ e', ψ e' → SO (some 0) ds P n w0 ops Q rest ((d, .bool false) :: F) (outer w0 [e0] :: e' :: Ex)) :
    SO (some 0) ds P n w0 ops Q (⟨some d, .call { callee := .value x, args := args, argTypes := ats }, ty, pos, after, none⟩ :: rest) F (outer w0 [e0] :: e :: Ex) := fun a w ha hw => by
  show wpListIn (fenceOf 0) 0 P ops Q _ a w
  refine wpListIn_plain rfl fun K hK => ?_
  obtain ⟨fn, tmps, assign, body, hy, hR⟩ := Y w hw
  refine ⟨fun _ _ => fenceOf_fn _ _, ?_⟩
  rw [fenceOf_sem _ _ _ (fun _ h => by cases h), run_callYield ha hx hv hy]
  refine ⟨fun hh => by simp [fenceOf_depth] at hh, hR.mono ?_⟩
  rintro en w' ⟨b, e', rfl, ht, hf, hw'⟩
  cases b with
  | true => exact hK _ _ (h1 e' (ht rfl) _ _ (ha.put hn _) hw')
  | false => exact hK _ _ (h2 e' (hf rfl) _ _ (ha.put hn _) hw')

theorem HeapIs.comm {w : World} {e : Ent} {Hs R : List Ent} (h : HeapIs w0 (Hs ++ (e :: R)) w) : HeapIs w0 (e :: (Hs ++ R)) w := by
  have hp := List.pairwise_append.1 h.apart
  have hq := List.pairwise_cons.1 hp.2.1
  refine ⟨h.same, h.size, fun f hf => h.good f ?_, List.pairwise_cons.2 ⟨fun f hf => ?_, List.pairwise_append.2 ⟨hp.1, hq.2, fun a ha f hf => hp.2.2 a ha f (by simp [hf])⟩⟩⟩
  · simp only [List.mem_cons, List.mem_append] at hf ⊢; rcases hf with h | h | h <;> simp [h]
  · rcases List.mem_append.1 hf with hf | hf
    · exact fun b hb hb' => hp.2.2 f hf e (by simp) b hb' hb
    · exact hq.1 f hf

/-! ### The loop -/
/-- What a round's end must bring. -/
def RR (W1 : World) (e0 : Ent) (l : Nat) (rc : Loop) {St : Type} (HI : St → List Ent) (I : Nat → St → Prop) (Ix : Code → St → Prop) (k : Nat) (Ex : List Ent) : Ending → World → Prop := fun en W' => ∃ b e', en = .returned (.bool b) ∧
  (b = true → ∃ s, I (k + 1) s ∧ e' = pack (loopE l (recd rc .ready none) :: HI s)) ∧ (b = false → ∃ c s, Ix c s ∧ e' = pack (loopE l (recd rc .done (some c)) :: HI s)) ∧ HeapIs W1 (outer W1 [e0] :: e' :: Ex) W'
theorem q_begin {l : Nat} {rc : Loop} {body : Code} {QB : Exit → Act → World → Prop} {i : Nat} (hi : H[i]? = some (loopE l (recd rc .ready none))) (h : SC (some (l + 1)) [] P n w0 QB body F (H.set i (loopE l (recd rc .busy none)))) :
    SQ [] n w0 (Exit.then (fun a1 w1 => ∃ w2, (Instr.beginRound l).run P w1 = .ok () w2 ∧ body.wpIn (Fence.wide.inRound l) 0 P QB a1 w2) (fun _ _ _ => False)) .normal F H := fun a w ha hw =>
  ⟨_, run_beginRound (hw.at hi).here rfl, h a _ ha (hw.putObj hi)⟩
theorem HeapIs.repack {W1 w : World} {e1 e0 : Ent} {Hs Ex : List Ent} (h : HeapIs W1 (e1 :: e0 :: (Hs ++ Ex)) w) : HeapIs W1 (e1 :: Sx.pack (e0 :: Hs) :: Ex) w := by
  have h2 : HeapIs W1 ((e0 :: Hs) ++ (e1 :: Ex)) w := by
    refine ⟨h.same, h.size, fun e he => h.good e ?_, ?_⟩
    · simp only [List.cons_append, List.mem_cons, List.mem_append] at he ⊢
      rcases he with h | h | h | h <;> simp [h]
    · have hp := List.pairwise_cons.1 h.apart
      have hq := List.pairwise_append.1 (show ((e0 :: Hs) ++ Ex).Pairwise _ from hp.2)
      refine List.pairwise_append.2 ⟨hq.1, List.pairwise_cons.2 ⟨fun f hf => hp.1 f (by simp [hf]), hq.2.1⟩, fun e he f hf => ?_⟩
      rcases List.mem_cons.1 hf with rfl | hf
      · exact fun b hb hb' => hp.1 e (by simp only [List.mem_cons, List.mem_append] at he ⊢; rcases he with h | h <;> simp [h]) b hb' hb
      · exact hq.2.2 e he f hf
  have h3 := h2.pack
  refine ⟨h3.same, h3.size, fun e he => h3.good e ?_, ?_⟩
  · simp only [List.mem_cons] at he ⊢; rcases he with h | h | h <;> simp [h]
  · have hp := List.pairwise_cons.1 h3.apart
    have hq := List.pairwise_cons.1 hp.2
    refine List.pairwise_cons.2 ⟨fun f hf => ?_, List.pairwise_cons.2 ⟨fun f hf => hp.1 f (by simp [hf]), hq.2⟩⟩
    rcases List.mem_cons.1 hf with rfl | hf
    · exact fun b hb hb' => hp.1 _ (by simp) b hb' hb
    · exact hq.1 f hf
theorem HeapIs.openpack {W1 w : World} {e1 e0 : Ent} {Hs Ex : List Ent} (h : HeapIs W1 (e1 :: Sx.pack (e0 :: Hs) :: Ex) w) : HeapIs W1 (e1 :: e0 :: (Hs ++ Ex)) w := by
  have hp := List.pairwise_cons.1 h.apart
  have hq := List.pairwise_cons.1 hp.2
  have hk := (h.good (Sx.pack (e0 :: Hs)) (by simp)).here
  refine ⟨h.same, h.size, fun e he => ?_, ?_⟩
  · simp only [List.mem_cons, List.mem_append] at he
    rcases he with rfl | rfl | he | he
    · exact h.good e (by simp)
    · exact hk.1 _ (by simp)
    · exact hk.1 _ (by simp [he])
    · exact h.good e (by simp [he])
  · refine List.pairwise_cons.2 ⟨fun f hf b hb hb' => ?_, ?_⟩
    · simp only [List.mem_cons, List.mem_append] at hf
      rcases hf with rfl | hf | hf
      · exact hp.1 (Sx.pack (f :: Hs)) (by simp) b hb ⟨f, by simp, hb'⟩
      · exact hp.1 (Sx.pack (e0 :: Hs)) (by simp) b hb ⟨f, by simp [hf], hb'⟩
      · exact hp.1 f (by simp [hf]) b hb hb'
    · show ((e0 :: Hs) ++ Ex).Pairwise _
      exact List.pairwise_append.2 ⟨hk.2, hq.2, fun e he f hf b hb hb' => hq.1 f hf b ⟨e, he, hb⟩ hb'⟩
theorem q_next {W1 : World} {e0 : Ent} {l : Nat} {rc : Loop} {St : Type} {HI : St → List Ent} {I : Nat → St → Prop} {Ix : Code → St → Prop} {k : Nat} {Ex : List Ent} (s : St) (hI : I (k + 1) s) (hH : ∀ w, HeapIs W1 H w → HeapIs W1 (outer W1 [e0] :: loopE l (recd rc .busy none) :: (HI s ++ Ex)) w) :
    SQ [] n W1 (roundPost P l (RR W1 e0 l rc HI I Ix k Ex)) .normal F H := fun a w ha hw => by
  have h1 := hH w hw
  have h2 := h1.putObj (i := 1) (o' := .loop (recd rc .ready none)) rfl
  exact ⟨_, _, run_endRound none (h1.at (i := 1) rfl).here, true, _, rfl, fun _ => ⟨s, hI, rfl⟩, fun h => (by cases h), HeapIs.repack h2⟩
theorem q_leave {W1 : World} {e0 : Ent} {l : Nat} {rc : Loop} {St : Type} {HI : St → List Ent} {I : Nat → St → Prop} {Ix : Code → St → Prop} {k : Nat} {Ex : List Ent} (s : St) (hI : Ix .ret s) (hH : ∀ w, HeapIs W1 H w → HeapIs W1 (outer W1 [e0] :: loopE l (recd rc .busy none) :: (HI s ++ Ex)) w) :
    SQ [] n W1 (roundPost P l (RR W1 e0 l rc HI I Ix k Ex)) .ret F H := fun a w ha hw => by
  have h1 := hH w hw
  have h2 := h1.putObj (i := 1) (o' := .loop (recd rc .done (some .ret))) rfl
  exact ⟨_, _, run_endRound (some .ret) (h1.at (i := 1) rfl).here, false, _, rfl, fun h => (by cases h), fun _ => ⟨.ret, s, hI, rfl⟩, HeapIs.repack h2⟩
theorem q_leaveX {W1 : World} {e0 : Ent} {l id : Nat} {rc : Loop} {St : Type} {HI : St → List Ent} {I : Nat → St → Prop} {Ix : Code → St → Prop} {k : Nat} {Ex : List Ent} (s : St) (hI : Ix (.exit id) s) (hH : ∀ w, HeapIs W1 H w → HeapIs W1 (outer W1 [e0] :: loopE l (recd rc .busy none) :: (HI s ++ Ex)) w) :
    SQ [] n W1 (roundPost P l (RR W1 e0 l rc HI I Ix k Ex)) (.exit id) F H := fun a w ha hw => by
  have h1 := hH w hw
  have h2 := h1.putObj (i := 1) (o' := .loop (recd rc .done (some (.exit id)))) rfl
  exact ⟨_, _, run_endRound (some (.exit id)) (h1.at (i := 1) rfl).here, false, _, rfl, fun h => (by cases h), fun _ => ⟨.exit id, s, hI, rfl⟩, HeapIs.repack h2⟩

/-- The frame of a round: what is known ahead of the loop, with yield's arguments. -/
def putF : List Tmp → List Value → List (Nat × Value) → List (Nat × Value)
  | p :: ps, v :: vs, F => putF ps vs ((p, v) :: F)
  | _, _, F => F
theorem ok_putF : ∀ (ps : List Tmp) (vs : List Value) {F : List (Nat × Value)} {tmps : Array Value}, ps.all (Nat.blt · n) = true → Ok n [] F ⟨tmps, []⟩ → Ok n [] (putF ps vs F) ⟨(ps.zip vs).foldl (fun t (p, v) => t.setIfInBounds p v) tmps, []⟩
  | [], _, _, _, _, h => by simpa [putF] using h
  | p :: ps, [], _, _, _, h => by simpa [putF] using h
  | p :: ps, v :: vs, F, tmps, hb, h => by
    simp only [List.all_cons, Bool.and_eq_true] at hb
    simp only [putF, List.zip_cons_cons, List.foldl_cons]
    exact ok_putF ps vs hb.2 (h.put hb.1 v)
theorem c_rangeFunc {g : Operand} {ps : List Tmp} {assign body : Code} {f : FuncId} {caps : List Value} {Pr : Ent → World → Prop} {X : Type} {encs : X → Nat → List Value} {E : X → Nat → List Ent} {N : Nat}
    (hg : ev F g = some (.func (.func f) #[] caps.toArray)) (hP : HasFn P f) (hit : ItOk P f caps Pr X encs E N) (hlen : ∀ x k, (encs x k).length = ps.length) (hblt : ps.all (Nat.blt · n) = true)
    {St : Type} (HI : St → List Ent) (I : Nat → St → Prop) (Ix : Code → St → Prop) (R : List Ent) (s0 : St) (hI : I 0 s0) (hH : ∀ w, HeapIs w0 H w → HeapIs w0 (HI s0 ++ R) w)
    (hpr : ∀ D e0 W1, HeapIs w0 (e0 :: defE D :: R) W1 → Pr e0 W1)
    (round : ∀ (l : Nat) (rc : Loop) (D : Nat) (e0 : Ent) (W1 : World), HeapIs w0 (e0 :: defE D :: R) W1 → ∀ x k s, k < N → I k s →
      SC (some (l + 1)) [] P n W1 (Exit.then (fun a1 w1 => ∃ w2, (Instr.beginRound l).run P w1 = .ok () w2 ∧ body.wpIn (Fence.wide.inRound l) 0 P (roundPost P l (RR W1 e0 l rc HI I Ix k (E x k))) a1 w2) (fun _ _ _ => False)) assign (putF ps (encs x k) F) (outer W1 [e0] :: loopE l (recd rc .ready none) :: (HI s ++ E x k)))
    (after : ∀ D s, I N s → SQ (mark D :: ds) n w0 Q .normal F (defE D :: (HI s ++ R)))
    (jump : ∀ D c s, Ix c s → SC none (mark D :: ds) P n w0 Q c F (defE D :: (HI s ++ R))) :
    SC none ds P n w0 Q (.rangeFunc g ps.toArray assign body) F H := fun a w ha hw => by
  refine (wpIn_wide (n := 0)).1 (wpIn_rangeFunc ?_)
  intro fn _
  have hw1 := hH w hw
  have hround : Fence.wide.round = none := rfl
  rw [hround]
  obtain ⟨rc, hrc⟩ : ∃ rc : Loop, rc = { state := .ready, pending := none, fn, tmps := a.tmps, params := ps.toArray, assign, body, defers := w.heap.size } := ⟨_, rfl⟩
  obtain ⟨W1, hW1⟩ : ∃ W1, (w.alloc (.deferred (some []))).alloc (.loop rc) = W1 := ⟨_, rfl⟩
  have hA : HeapIs w0 (loopE (w.heap.size + 1) (recd rc .ready none) :: defE w.heap.size :: (HI s0 ++ R)) W1 := by
    have h1 := (hw1.newObj (.deferred (some []))).newObj (.loop rc)
    rw [hW1, World.size_alloc] at h1
    have e : recd rc .ready none = rc := by rw [hrc]; rfl
    rw [e]; exact h1
  have hB : HeapIs w0 (pack (loopE (w.heap.size + 1) (recd rc .ready none) :: HI s0) :: defE w.heap.size :: R) W1 := by
    refine HeapIs.pack (H := loopE (w.heap.size + 1) (recd rc .ready none) :: HI s0) (R := defE w.heap.size :: R) ?_
    refine ⟨hA.same, hA.size, fun e he => hA.good e ?_, ?_⟩
    · simp only [List.cons_append, List.mem_cons, List.mem_append] at he ⊢
      rcases he with h | h | h | h <;> simp [h]
    · have hp := List.pairwise_cons.1 hA.apart
      have hq := List.pairwise_cons.1 hp.2
      have hr := List.pairwise_append.1 hq.2
      refine List.pairwise_cons.2 ⟨fun f hf => hp.1 f ?_, List.pairwise_append.2 ⟨hr.1, List.pairwise_cons.2 ⟨fun f hf => hq.1 f (by simp [hf]), hr.2.1⟩, fun e he f hf => ?_⟩⟩
      · have hf : f ∈ HI s0 ++ (defE w.heap.size :: R) := hf
        simp only [List.mem_append, List.mem_cons] at hf ⊢; rcases hf with h | h | h <;> simp [h]
      · rcases List.mem_cons.1 hf with rfl | hf
        · exact fun b hb hb' => hq.1 e (by simp [he]) b hb' hb
        · exact hr.2.2 e he f hf
  obtain ⟨e0, he0⟩ : ∃ e0, e0 = pack (loopE (w.heap.size + 1) (recd rc .ready none) :: HI s0) := ⟨_, rfl⟩
  rw [← he0] at hB
  have hC : HeapIs W1 [outer W1 [e0], e0] W1 := HeapIs.inner (pre := [e0]) (R := defE w.heap.size :: R) hB
  obtain ⟨gfn, gc, hg1, hg2, hg3⟩ := hP
  have hcall : ∀ (args : Array Value) (v : World), (callFunc f args).run P v = .ok (.enter f args) v := fun args v => by
    have hname' : gfn.name ≠ "runtime.NumGoroutine" := by intro e; rw [e] at hg3; simp at hg3
    simp [callFunc, program, Sem.run, hg1, hg2, hname']
  refine ⟨w.heap.size + 1, [mark w.heap.size], W1, { target := .fn (.func f) caps.toArray, args := #[.func (.yield (w.heap.size + 1)) #[] #[]] }, W1, f, #[.func (.yield (w.heap.size + 1)) #[] #[]] ++ caps.toArray, W1, ?_, ?_, ?_, ?_, fun hh => (by cases hh), ?_⟩
  · rw [← hW1, hrc]; exact run_enterLoop_outer _ _ _ _ _
  · simp only [resolve, ha.eval hg]
    simp [go_sem]
  · intro f' hf'; trivial
  · simp [invoke, go_sem, hcall]
  · have hargs : #[.func (.yield (w.heap.size + 1)) #[] #[]] ++ caps.toArray = (.func (.yield (w.heap.size + 1)) #[] #[] :: caps : List Value).toArray := by simp
    rw [hargs]
    refine callsIn_wide.2 ?_
    refine (hit (w.heap.size + 1) (fun k e => ∃ s, I k s ∧ e = pack (loopE (w.heap.size + 1) (recd rc .ready none) :: HI s)) (fun e => ∃ c s, Ix c s ∧ e = pack (loopE (w.heap.size + 1) (recd rc .done (some c)) :: HI s)) e0 W1 hC (hpr _ _ _ hB) ⟨s0, hI, he0⟩ ?_).mono ?_
    · rintro x k e W hk ⟨s, hs, rfl⟩ hW
      have h2 := hW.openpack
      have hl := (h2.at (i := 1) rfl).here
      have hy := run_yield (P := P) (args := (encs x k).toArray) hl (by simp [recd, hrc, hlen])
      refine ⟨_, _, _, _, hy, roundIn_of_wpIn trivial ?_⟩
      have hrd := round (w.heap.size + 1) rc w.heap.size e0 W1 hB x k s hk hs
      have hok : Ok n [] (putF ps (encs x k) F) ⟨((recd rc .ready none).params.zip (encs x k).toArray).foldl (fun tmps (t, a) => tmps.setIfInBounds t a) (recd rc .ready none).tmps, []⟩ := by
        have h0 : Ok n [] F ⟨a.tmps, []⟩ := ⟨rfl, ha.size, ha.knows⟩
        have h1 := ok_putF ps (encs x k) hblt h0
        have e1 : (recd rc .ready none).tmps = a.tmps := by rw [hrc]; rfl
        have e2 : (recd rc .ready none).params = ps.toArray := by rw [hrc]; rfl
        rw [e1, e2]
        simpa using h1
      have e3 : (recd rc .ready none).assign = assign := by rw [hrc]; rfl
      have e4 : (recd rc .ready none).body = body := by rw [hrc]; rfl
      rw [e3, e4]
      exact hrd _ W hok h2
    · rintro en W2 ⟨e', rfl, hor, hW2⟩
      have hback : HeapIs w0 ([e'] ++ (defE w.heap.size :: R)) W2 := HeapIs.back (pre := [e0]) (post := [e']) (R := defE w.heap.size :: R) hB hW2
      rcases hor with ⟨s, hs, rfl⟩ | ⟨c, s, hs, rfl⟩
      · have h3 : HeapIs w0 (loopE (w.heap.size + 1) (recd rc .ready none) :: (HI s ++ (defE w.heap.size :: R))) W2 := HeapIs.unpack (H := loopE (w.heap.size + 1) (recd rc .ready none) :: HI s) hback
        have h4 := h3.putObj (i := 0) (o' := .loop { recd rc .ready none with state := .exhausted }) rfl
        refine ⟨none, _, run_endLoop (h3.at (i := 0) rfl).here (by simp [recd]), ?_⟩
        refine after w.heap.size s hs _ _ ⟨by simp [ha.defers], ha.size, ha.knows⟩ ?_
        have h5 : HeapIs w0 (HI s ++ (defE w.heap.size :: R)) _ := h4.drop (List.sublist_cons_self _ _)
        exact h5.comm
      · have h3 : HeapIs w0 (loopE (w.heap.size + 1) (recd rc .done (some c)) :: (HI s ++ (defE w.heap.size :: R))) W2 := HeapIs.unpack (H := loopE (w.heap.size + 1) (recd rc .done (some c)) :: HI s) hback
        have h4 := h3.putObj (i := 0) (o' := .loop { recd rc .done (some c) with state := .exhausted }) rfl
        refine ⟨some c, _, run_endLoop (h3.at (i := 0) rfl).here (by simp [recd]), ?_⟩
        have h5 : HeapIs w0 (HI s ++ (defE w.heap.size :: R)) _ := h4.drop (List.sublist_cons_self _ _)
        exact (wpIn_wide (n := 0)).2 (jump w.heap.size c s hs _ _ ⟨by simp [ha.defers], ha.size, ha.knows⟩ h5.comm)

/-! ### The ends of a function that holds such a loop -/
theorem calls_of_marks {f : FuncId} {fn : Func} {c : Code} {args : Array Value} {w : World} {Rr : Ending → World → Prop} (hf : P.funcs[f]? = some fn) (hb : fn.body = some c)
    (h : c.wp P (bodyPostM Fence.wide 0 P fn Rr) { tmps := args ++ Array.replicate (fn.ntmps - args.size) undef, defers := [] } w) : Calls P f args w Rr :=
  callsIn_wide.1 (callsIn_of_wp_marks (F := Fence.wide) (n := 0) hf hb trivial (wpIn_wide.2 h))
theorem q_marks0 {fn : Func} {Rr : Ending → World → Prop} (h : SQ [] n w0 (bodyPost P fn Rr) .ret F H) : SQ [] n w0 (bodyPostM Fence.wide 0 P fn Rr) .ret F H := fun a w ha hw => by
  obtain ⟨_, v, h1, h2⟩ := h a w ha hw
  show LeavesInM Fence.wide 0 P fn a.tmps Rr a.defers .returning w
  rw [ha.defers]
  exact ⟨v, h1, h2⟩
theorem q_marks {fn : Func} {Rr : Ending → World → Prop} {D i : Nat} (hi : H[i]? = some (defE D)) (h : SQ ds n w0 (bodyPostM Fence.wide 0 P fn Rr) .ret F (H.eraseIdx i)) : SQ (mark D :: ds) n w0 (bodyPostM Fence.wide 0 P fn Rr) .ret F H := fun a w ha hw => by
  have hd := (hw.at hi).here
  show LeavesInM Fence.wide 0 P fn a.tmps Rr a.defers .returning w
  rw [ha.defers]
  refine ⟨by simp, .inl ⟨D, _, rfl, run_takeDeferred hd, ?_⟩⟩
  have h2 := hw.putObj (i := i) (o' := .deferred none) hi
  have h3 : HeapIs w0 (H.eraseIdx i) (w.putObj D (.deferred none)) := h2.drop (by
    have e : H.eraseIdx i = (H.set i (objE D (.deferred none))).eraseIdx i := by
      apply List.ext_getElem?
      intro j
      simp only [List.getElem?_eraseIdx, List.getElem?_set]
      split
      · rw [if_neg (by omega)]
      · rw [if_neg (by omega)]
    rw [e]; exact List.eraseIdx_sublist _ _)
  have h4 := h ⟨a.tmps, ds⟩ _ ⟨rfl, ha.size, ha.knows⟩ h3
  exact h4
theorem fn0R {f : FuncId} {fn : Func} {c : Code} {args : List Value} {Pre : World → Prop} {v : Value} {nt : Nat} {F0 : List (Nat × Value)} (hf : P.funcs[f]? = some fn) (hb : fn.body = some c) (hn : fn.ntmps = nt) (hle : Nat.ble args.length nt = true) (hF : F0 = (List.range args.length).zip args)
    (h : ∀ w0, Pre w0 → SC none [] P nt w0 (bodyPostM Fence.wide 0 P fn (End0 w0 v)) c F0 [base w0]) : Fn0 P f args Pre v := fun w hw => by
  refine calls_of_marks hf hb ?_
  have e : args.toArray.size = args.length := by simp
  have hle' : args.length ≤ nt := Nat.le_of_ble_eq_true hle
  have ho := ok_begin args (nt - args.length)
  rw [show args.length + (nt - args.length) = nt by omega, ← hF] at ho
  rw [hn, e]
  exact h w hw _ w ho (HeapIs.begin w)
theorem fnMR {f : FuncId} {fn : Func} {c : Code} {args : List Value} {Pre : World → Prop} {π : Type} {val : π → Value} {A : π → (Nat → Prop) → World → Prop} {nt : Nat} {F0 : List (Nat × Value)} (hf : P.funcs[f]? = some fn) (hb : fn.body = some c) (hn : fn.ntmps = nt) (hle : Nat.ble args.length nt = true) (hF : F0 = (List.range args.length).zip args)
    (h : ∀ w0, Pre w0 → SC none [] P nt w0 (bodyPostM Fence.wide 0 P fn (EndM w0 π val A)) c F0 [base w0]) : FnM P f args Pre π val A := fun w hw => by
  refine calls_of_marks hf hb ?_
  have e : args.toArray.size = args.length := by simp
  have hle' : args.length ≤ nt := Nat.le_of_ble_eq_true hle
  have ho := ok_begin args (nt - args.length)
  rw [show args.length + (nt - args.length) = nt by omega, ← hF] at ho
  rw [hn, e]
  exact h w hw _ w ho (HeapIs.begin w)
theorem fnXR {f : FuncId} {fn : Func} {c : Code} {args : List Value} {pre : List Ent} {Pr : World → Prop} {π : Type} {val : π → Value} {post : π → List Ent} {nt : Nat} {F0 : List (Nat × Value)} (hf : P.funcs[f]? = some fn) (hb : fn.body = some c) (hn : fn.ntmps = nt) (hle : Nat.ble args.length nt = true) (hF : F0 = (List.range args.length).zip args)
    (h : ∀ w0, Pr w0 → SC none [] P nt w0 (bodyPostM Fence.wide 0 P fn (EndX w0 pre π val post)) c F0 (outer w0 pre :: pre)) : FnX P f args pre Pr π val post := fun w hw hp => by
  refine calls_of_marks hf hb ?_
  have e : args.toArray.size = args.length := by simp
  have hle' : args.length ≤ nt := Nat.le_of_ble_eq_true hle
  have ho := ok_begin args (nt - args.length)
  rw [show args.length + (nt - args.length) = nt by omega, ← hF] at ho
  rw [hn, e]
  exact h w hp _ w ho hw
end
end Go.Sx
