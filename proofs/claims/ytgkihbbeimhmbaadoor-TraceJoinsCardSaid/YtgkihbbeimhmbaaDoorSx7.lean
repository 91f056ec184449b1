/- A region that draws its order and changes the heap: what only reads is taken first, the rest in whatever order. Struct literals. -/
import Derived.Test.YtgkihbbeimhmbaaDoorSx6
import Derived.OrdersHeld
namespace Go.Sx
open Go.RowKit

section
variable {P : Program} {n : Nat} {w0 : World} {r : Option Nat} {ds : List Deferred} {Q : Exit → Act → World → Prop} {F F' : List (Nat × Value)} {H H' Hr : List Ent} {ops : Array Oper}
variable {ty : TypeId} {pos : String} {after : Array Edge} {guard : Option (Nat × Bool)} {dst : Option Tmp} {d : Nat} {fuel : Nat} {listed : Array Bool}

def SH (ds : List Deferred) (P : Program) (n : Nat) (w0 : World) (ops : Array Oper) (Q : Exit → Act → World → Prop) (Hr : List Ent) (fuel : Nat) (listed : Array Bool) (F : List (Nat × Value)) (H : List Ent) : Prop :=
  ∀ a w, Ok n ds F a → HeapIs w0 H w → wpAnyH P .any ops Q (HeapIs w0 Hr) fuel listed a w

def HQ (P : Program) (w0 : World) (ops : Array Oper) (Q : Exit → Act → World → Prop) (Hr : List Ent) (fuel : Nat) (listed : Array Bool) : Exit → Act → World → Prop
  | .normal, a, w => HeapIs w0 Hr w ∧ wpAnyH P .any ops Q (HeapIs w0 Hr) fuel listed a w
  | .exit i, a, w => Q (.exit i) a w
  | .goto i, a, w => Q (.goto i) a w
  | .ret, a, w => Q .ret a w
  | .panic c, a, w => Q (.panic c) a w
  | .outgrown, a, w => Q .outgrown a w

theorem c_held {id m : Nat} {l : List Oper} {ls : Array Bool} (hm : P.follows .mixedOrders = true) (Hr : List Ent) (hl : l.length = m) (hls : ls = Array.replicate m false) (h : SH ds P n w0 l.toArray Q Hr m ls F H) : SC none ds P n w0 Q (.region id l.toArray true) F H := fun a w ha hw =>
  wp_region_held (S := HeapIs w0 Hr) hm (by
    have := h a _ ha (hw.drew (w.drawn + 1))
    subst hl; subst hls
    simpa using this)

theorem h_take {i : Nat} {o : Oper} {v : Value} {ls : Array Bool} (hi : ops[i]? = some o) (hs : Region.noSelect ops = true) (hf : Region.free .any ops listed i = true) (hr : (Region.ready .any ops listed).contains i = true)
    (hQ : ∀ c a w, Q (.panic c) (a.put o.dst v) w → Q (.panic c) a w) (hp : Pure ds P n w0 o F Hr v) (hg : o.guard = none) (hd : o.dst = some d) (hn : Nat.blt d n = true) (hsub : ∀ w, HeapIs w0 H w → HeapIs w0 Hr w) (hls : ls = listed.setIfInBounds i true)
    (k : SH ds P n w0 ops Q Hr fuel ls ((d, v) :: F) H) : SH ds P n w0 ops Q Hr (fuel + 1) listed F H := fun a w ha hw => by
  subst hls
  refine wpAnyH_take hi hs hf hr hQ (.inl ⟨by simp [Region.wanted, hg], fun w' hw' => hp a w' ha hw'⟩) (hsub w hw) ?_
  rw [hd]
  exact k _ w (ha.put hn v) hw

theorem h_next {ls : Array Bool} (hsub : ∀ w, HeapIs w0 H w → HeapIs w0 Hr w) (k : SH ds P n w0 ops Q Hr fuel ls F H) : SQ ds n w0 (HQ P w0 ops Q Hr fuel ls) .normal F H := fun a w ha hw => ⟨hsub w hw, k a w ha hw⟩

theorem wpOp_of_SO {i : Nat} {o : Oper} {ls : Array Bool} {a : Act} {w : World} (hi : ops[i]? = some o) (h : wpList P ops (HQ P w0 ops Q Hr fuel ls) [o] a w) : wpOp P ops Q i (fun a' w' => HeapIs w0 Hr w' ∧ wpAnyH P .any ops Q (HeapIs w0 Hr) fuel ls a' w') a w := by
  unfold wpOp
  simp only [hi]
  unfold wpList at h
  split
  · rename_i hw; rw [if_pos hw] at h
    rcases h with h | ⟨h1, h2⟩
    · refine .inl ?_
      unfold Oper.wp at *
      generalize (execOp a.eval o).run P w = r at *
      cases r with
      | ok nx w' => cases nx <;> exact h
      | halt x w' => cases x <;> exact h
    · exact .inr ⟨h1, h2⟩
  · rename_i hw; rw [if_neg hw] at h; exact h

theorem h_one {i : Nat} {o : Oper} {ls : Array Bool} (hr : Region.ready .any ops listed = [i]) (hi : ops[i]? = some o) (hls : ls = listed.setIfInBounds i true) (h : SO none ds P n w0 ops (HQ P w0 ops Q Hr fuel ls) [o] F H) : SH ds P n w0 ops Q Hr (fuel + 1) listed F H := fun a w ha hw => by
  subst hls
  refine wpAnyH_all hr (by simp) fun j hj => ?_
  rcases List.mem_singleton.1 hj with rfl
  exact wpOp_of_SO hi (h a w ha hw)

theorem h_two {i j : Nat} {o o' : Oper} {ls ls' : Array Bool} (hr : Region.ready .any ops listed = [i, j]) (hi : ops[i]? = some o) (hj : ops[j]? = some o') (hls : ls = listed.setIfInBounds i true) (hls' : ls' = listed.setIfInBounds j true)
    (h : SO none ds P n w0 ops (HQ P w0 ops Q Hr fuel ls) [o] F H) (h' : SO none ds P n w0 ops (HQ P w0 ops Q Hr fuel ls') [o'] F H) : SH ds P n w0 ops Q Hr (fuel + 1) listed F H := fun a w ha hw => by
  subst hls; subst hls'
  refine wpAnyH_all hr (by simp) fun k hk => ?_
  rcases List.mem_cons.1 hk with rfl | hk
  · exact wpOp_of_SO hi (h a w ha hw)
  · rcases List.mem_singleton.1 hk with rfl
    exact wpOp_of_SO hj (h' a w ha hw)

theorem h_three {i j k : Nat} {o o' o'' : Oper} {ls ls' ls'' : Array Bool} (hr : Region.ready .any ops listed = [i, j, k]) (hi : ops[i]? = some o) (hj : ops[j]? = some o') (hk : ops[k]? = some o'') (hls : ls = listed.setIfInBounds i true) (hls' : ls' = listed.setIfInBounds j true) (hls'' : ls'' = listed.setIfInBounds k true)
    (h : SO none ds P n w0 ops (HQ P w0 ops Q Hr fuel ls) [o] F H) (h' : SO none ds P n w0 ops (HQ P w0 ops Q Hr fuel ls') [o'] F H) (h'' : SO none ds P n w0 ops (HQ P w0 ops Q Hr fuel ls'') [o''] F H) : SH ds P n w0 ops Q Hr (fuel + 1) listed F H := fun a w ha hw => by
  subst hls; subst hls'; subst hls''
  refine wpAnyH_all hr (by simp) fun q hq => ?_
  rcases List.mem_cons.1 hq with rfl | hq
  · exact wpOp_of_SO hi (h a w ha hw)
  · rcases List.mem_cons.1 hq with rfl | hq
    · exact wpOp_of_SO hj (h' a w ha hw)
    · rcases List.mem_singleton.1 hq with rfl
      exact wpOp_of_SO hk (h'' a w ha hw)

theorem h_done (hr : Region.ready .any ops listed = []) (h : SQ ds n w0 Q .normal F H) : SH ds P n w0 ops Q Hr fuel listed F H := fun a w ha hw => wpAnyH_done hr (h a w ha hw) fuel

/-- What is known where the ways meet again behind c. -/
theorem c_cut {c : Code} {G : Type} (FE : G → List (Nat × Value)) (HE : G → List Ent) (hr_ : ∀ K : Act → World → Prop, (∀ g a w, Ok n ds (FE g) a → HeapIs w0 (HE g) w → K a w) → SC r ds P n w0 (Exit.then K Q) c F H) (k : ∀ g, SQ ds n w0 Q .normal (FE g) (HE g)) : SC r ds P n w0 Q c F H := fun a w ha hw =>
  wpC_mono (fun e a' w' h => by
    cases e with
    | normal => obtain ⟨g, h1, h2⟩ := h; exact k g a' w' h1 h2
    | _ => exact h) (hr_ (fun a' w' => ∃ g, Ok n ds (FE g) a' ∧ HeapIs w0 (HE g) w') (fun g a' w' h1 h2 => ⟨g, h1, h2⟩) a w ha hw)

theorem q_kont {G : Type} {FE : G → List (Nat × Value)} {HE : G → List Ent} {K : Act → World → Prop} (hK : ∀ g a w, Ok n ds (FE g) a → HeapIs w0 (HE g) w → K a w) (g : G) (hF : Sub F (FE g)) (hH : ∀ w, HeapIs w0 H w → HeapIs w0 (HE g) w) : SQ ds n w0 (Exit.then K Q) .normal F H :=
  fun _ w ha hw => hK g _ w (ha.sub hF) (hH w hw)

/-! ### A guard that says yes -/
theorem o_unguard {op : Op} {g : Nat} {want : Bool} {rest : List Oper} (dg : Nat) (hdg : ((ops[g]?).bind (·.dst)) = some dg) (hb : lk F dg = some (.bool want)) (h : SO r ds P n w0 ops Q (⟨dst, op, ty, pos, after, none⟩ :: rest) F H) :
    SO r ds P n w0 ops Q (⟨dst, op, ty, pos, after, some (g, want)⟩ :: rest) F H := fun a w ha hw => by
  have h1 := h a w ha hw
  have hw' : Region.wanted (⟨dst, op, ty, pos, after, some (g, want)⟩ : Oper) (yielded ops a.tmps) = true := by simp [Region.wanted, yielded, hdg, ha.knows dg _ hb]
  cases r with
  | none =>
    simp only [wpL] at h1 ⊢
    unfold wpList at h1 ⊢
    rw [if_pos hw']
    rw [if_pos (by simp [Region.wanted])] at h1
    exact h1
  | some l =>
    simp only [wpL] at h1 ⊢
    unfold wpListIn at h1 ⊢
    rw [if_pos hw']
    rw [if_pos (by simp [Region.wanted])] at h1
    exact h1
theorem w_unguard {op : Op} {g : Nat} {want : Bool} {rest : List Oper} (dg : Nat) (hdg : ((ops[g]?).bind (·.dst)) = some dg) (hb : lk F dg = some (.bool want)) (h : SW ds P n w0 ops Q (⟨dst, op, ty, pos, after, none⟩ :: rest) F H) :
    SW ds P n w0 ops Q (⟨dst, op, ty, pos, after, some (g, want)⟩ :: rest) F H := fun a ha => by
  have h1 := h a ha
  have hw' : Region.wanted (⟨dst, op, ty, pos, after, some (g, want)⟩ : Oper) (yielded ops a.tmps) = true := by simp [Region.wanted, yielded, hdg, ha.knows dg _ hb]
  unfold wpQuiet at h1 ⊢
  rw [if_pos hw']
  rw [if_pos (by simp [Region.wanted])] at h1
  exact h1

/-! ### A field of an element -/
theorem p_fieldAddrE {s : TypeId} {x : Operand} {f off : Nat} {A : Addr} (hx : ev F x = some (.pointer (some A))) (hf : fieldOff P s f = some off) : Pure ds P n w0 ⟨dst, .fieldAddr s x f, ty, pos, after, guard⟩ F H (.pointer (some (A.add off))) := fun a w ha _ => by
  simp [execOp, run_bind, ha.eval hx, run_fieldAt hf]

theorem p_loadF {α : Type} {T : Ty α} {a : Option Addr} {cap : Nat} {L : List α} {t : TypeId} {x : Operand} {i j : Nat} {v : Value} (hx : ev F x = some (.pointer (some ((ea a (i * T.k)).add j)))) (hr : ∀ w, HeapIs w0 H w → Rd T w a cap L) (hi : i < L.length) (ht : shp P t = some none) (hk : (T.enc L[i])[j]? = some v) :
    Pure ds P n w0 ⟨dst, .load t x, ty, pos, after, guard⟩ F H v := fun b w hb hw => by
  have hj : j < T.k := by rw [← T.len L[i]]; exact (List.getElem?_eq_some_iff.1 hk).1
  have hc := (hr w hw).cell hi hj
  rw [hk] at hc
  simp [execOp, run_bind, hb.eval hx, Instr.loadAt, Instr.sureAddr, run_pure, run_loadVar_one ht hc]

theorem w_call0_guarded {f : FuncId} {args : Array Operand} {ats : Array TypeId} {vs : List Value} {Pre : World → Prop} {v : Value} {g : Nat} {want : Bool} {rest : List Oper} (hv : evs F args.toList = some vs) (hf : Fn0 P f vs Pre v) (hP : HasFn P f) (hpre : ∀ w, HeapIs w0 H w → Pre w) (dg : Nat) (hdg : ((ops[g]?).bind (·.dst)) = some dg)
    (hb : lk F dg = some (.bool want)) (hn : Nat.blt d n = true)
    (h : SW ds P n w0 ops Q rest ((d, v) :: F) H) : SW ds P n w0 ops Q (⟨some d, .call { callee := .value (.func f), args := args, argTypes := ats }, ty, pos, after, some (g, want)⟩ :: rest) F H := fun a ha =>
  wpQuiet_step fun K hK => by
    obtain ⟨fn, c, h1, h2, h3⟩ := hP
    have hw' : Region.wanted (⟨some d, .call { callee := .value (.func f), args := args, argTypes := ats }, ty, pos, after, some (g, want)⟩ : Oper) (yielded ops a.tmps) = true := by
      simp [Region.wanted, yielded, hdg, ha.knows dg _ hb]
    rw [if_pos hw']
    refine ⟨v, fun w hw => ?_, hK _ (h _ (ha.put hn v))⟩
    unfold Oper.quietAt
    rw [run_call ha hv h1 h2 h3]
    exact ⟨rfl, (hf w (hpre w hw)).mono fun e w' ⟨he, hb⟩ => ⟨he, hw.below hb⟩⟩

/-! ### Struct literals -/
def fieldPlaces (P : Program) (t : TypeId) : Option (List (Nat × Nat)) :=
  match P.underlying t with
  | some (.struct fs) => fs.toList.mapM fun f => (P.info? f.type).map fun i => (f.offset, i.size)
  | _ => none

theorem run_places (w : World) : ∀ (l : List Field) (pl : List (Nat × Nat)), l.mapM (fun f => (P.info? f.type).map fun i => (f.offset, i.size)) = some pl → (l.mapM (fun f => do pure (f.offset, ← sizeOf f.type) : Field → Sem (Nat × Nat))).run P w = .ok pl w
  | [], pl, h => by simp at h; subst h; rfl
  | f :: l, pl, h => by
    rw [List.mapM_cons] at h
    cases h1 : P.info? f.type with
    | none => rw [h1] at h; simp at h
    | some i =>
      rw [h1] at h
      cases h2 : l.mapM (fun f => (P.info? f.type).map fun i => (f.offset, i.size)) with
      | none => rw [h2] at h; simp at h
      | some pl' =>
        rw [h2] at h
        simp at h
        subst h
        have ih := run_places w l pl' h2
        have hs : (sizeOf f.type).run P w = .ok i.size w := by simp [sizeOf, run_bind, run_typeInfo h1, run_pure]
        rw [List.mapM_cons, run_bind]
        simp only [run_bind, hs, run_pure, ih]

theorem evs_pairs {a : Act} (ha : Ok n ds F a) : ∀ (ps : List (Nat × Operand)) (vs : List Value), evs F (ps.map (·.2)) = some vs → ps.map (fun p => (p.1, a.eval p.2)) = (ps.map (·.1)).zip vs
  | [], vs, h => by simp [evs] at h; subst h; rfl
  | (i, x) :: ps, vs, h => by
    simp only [List.map_cons, evs] at h
    split at h
    · rename_i v vs' h1 h2
      simp only [Option.some.injEq] at h
      subst h
      simp only [List.map_cons, List.zip_cons_cons, ha.eval h1, evs_pairs ha ps vs' h2]
    · simp at h

theorem p_build {t : TypeId} {ps : List (Nat × Operand)} {pl : List (Nat × Nat)} {z : List Value} {vs cells : List Value} (hp : fieldPlaces P t = some pl) (hz : zeroOf P t = some z) (hv : evs F (ps.map (·.2)) = some vs)
    (hf : Instr.fill (pl.toArray[·]?) z.toArray ((ps.map (·.1)).zip vs) = some cells.toArray) : Pure ds P n w0 ⟨dst, .build t ps.toArray, ty, pos, after, guard⟩ F H (.agg cells.toArray) := fun a w ha _ => by
  unfold zeroOf at hz
  simp only [Option.map_eq_some_iff, Option.bind_eq_some_iff] at hz
  obtain ⟨zv, ⟨i, hi, hzv⟩, rfl⟩ := hz
  unfold fieldPlaces at hp
  split at hp
  · rename_i fs hu
    have h1 := evs_pairs ha ps vs hv
    have hzv' : (zeroValue t).run P w = .ok zv w := by simp [zeroValue, run_bind, run_typeInfo hi, hzv]
    have h2 : (fs.mapM (fun f => do pure (f.offset, ← sizeOf f.type) : Field → Sem (Nat × Nat))).run P w = .ok pl.toArray w := by
      have e : fs = fs.toList.toArray := by simp
      rw [e, List.mapM_toArray]
      have h3 := run_places (P := P) w fs.toList pl hp
      show (Functor.map _ _ : Sem _).run P w = _
      have : ∀ (x : Sem (List (Nat × Nat))), (List.toArray <$> x) = (x >>= fun y => pure y.toArray) := fun x => rfl
      rw [this, run_bind, h3]; rfl
    have hb : (Instr.build t ((ps.map (fun p => (p.1, a.eval p.2))).toArray)).run P w = .ok (.agg cells.toArray) w := by
      unfold Instr.build
      simp only [run_bind, hzv', run_underlying hu, h2, h1, run_pure]
      have hf' : Instr.fill (fun x => pl.toArray[x]?) zv.cells ((ps.map (·.1)).zip vs) = some cells.toArray := by simpa using hf
      simp only [hf', run_pure]
    simp only [execOp, List.map_toArray, run_bind]
    rw [hb]
    rfl
  · cases hp
end
end Go.Sx
