/- Parts of slices, stores into elements, new slices, function values, calls that change what they are handed. -/
import Derived.Test.YtgkihbbeimhmbaaDoorSx1M11
import Derived.Lib.Overlaps
import Derived.Laws.Externs
import Derived.OrdersIn
import Derived.JoinedCond
import Derived.Deep.CondSized
import Derived.Maps.RangeRun
namespace Go.Sx
open Go.RowKit

section
variable {α : Type} {P : Program} {n : Nat} {w0 : World} {r : Option Nat} {ds : List Deferred} {Q : Exit → Act → World → Prop} {F F' : List (Nat × Value)} {H H' : List Ent} {ops : Array Oper}
variable {ty : TypeId} {pos : String} {after : Array Edge} {guard : Option (Nat × Bool)} {dst : Option Tmp} {rest : List Oper} {d : Nat} {x y : Operand}
variable {T : Ty α} {tY : TypeId} {a : Option Addr} {cap : Nat} {L : List α} {S : Nat → Prop}

/-! ### The heap's entries in another order, and fewer -/
theorem HeapIs.pick {w : World} (h : HeapIs w0 H w) (is : List Nat) (hn : is.Nodup) (hH : is.map (H[·]?) = H'.map some) : HeapIs w0 H' w := by
  have hlen : is.length = H'.length := by simpa using congrArg List.length hH
  have key : ∀ i (hi : i < is.length), ∃ (h1 : is[i] < H.length) (h2 : i < H'.length), H'[i] = H[is[i]] := fun i hi => by
    have := congrArg (·[i]?) hH
    simp only [List.getElem?_map, List.getElem?_eq_getElem hi, List.getElem?_eq_getElem (show i < H'.length by omega), Option.map_some, Option.some.injEq] at this
    obtain ⟨h1, h2⟩ := List.getElem?_eq_some_iff.1 this
    exact ⟨h1, by omega, h2.symm⟩
  refine ⟨h.same, h.size, fun e he => ?_, List.pairwise_iff_getElem.2 fun i j hi hj hij => ?_⟩
  · obtain ⟨i, hi, rfl⟩ := List.mem_iff_getElem.1 he
    obtain ⟨h1, h2, h3⟩ := key i (by omega)
    rw [h3]; exact h.good _ (List.getElem_mem _)
  · obtain ⟨h1, h2, h3⟩ := key i (by omega)
    obtain ⟨g1, g2, g3⟩ := key j (by omega)
    rw [h3, g3]
    have hne : is[i] ≠ is[j] := fun e => by
      exact List.pairwise_iff_getElem.1 hn i j (by omega) (by omega) hij e
    have hap := List.pairwise_iff_getElem.1 h.apart
    rcases Nat.lt_or_gt_of_ne hne with hl | hl
    · exact hap _ _ h1 g1 hl
    · exact fun b b1 b2 => hap _ _ g1 h1 hl b b2 b1
theorem o_pick {l : List Oper} (is : List Nat) (hn : is.Nodup) (hH : is.map (H[·]?) = H'.map some) (h : SO r ds P n w0 ops Q l F H') : SO r ds P n w0 ops Q l F H := fun a w ha hw => h a w ha (hw.pick is hn hH)
theorem q_pick {e : Exit} (is : List Nat) (hn : is.Nodup) (hH : is.map (H[·]?) = H'.map some) (h : SQ ds n w0 Q e F H') : SQ ds n w0 Q e F H := fun a w ha hw => h a w ha (hw.pick is hn hH)
theorem o_asH {l : List Oper} (hH : H = H') (h : SO r ds P n w0 ops Q l F H') : SO r ds P n w0 ops Q l F H := hH ▸ h
theorem q_asH {e : Exit} (hH : H = H') (h : SQ ds n w0 Q e F H') : SQ ds n w0 Q e F H := hH ▸ h
theorem c_asH {c : Code} (hH : H = H') (h : SC r ds P n w0 Q c F H') : SC r ds P n w0 Q c F H := hH ▸ h

/-! ### Parts of a slice -/
def sa (a : Option Addr) (m l k : Nat) : Option Addr := if m = l then a else a.map (·.add (l * k))
theorem sa_none (m l k : Nat) : sa none m l k = none := by unfold sa; split <;> rfl
theorem sa_zero (a : Option Addr) (m k : Nat) : sa a m 0 k = a := by
  unfold sa; split
  · rfl
  · cases a with
    | none => rfl
    | some x => simp [Addr.add]
theorem part_get {l hi i : Nat} (h2 : hi ≤ L.length) (h : i < ((L.take hi).drop l).length) : ∃ h', ((L.take hi).drop l)[i] = L[l + i]'h' := by
  have h' : l + i < L.length := by simp at h; omega
  exact ⟨h', by simp⟩
theorem SlR.part {w : World} {T : Ty α} (h : SlR T S w a cap L) {l m hi : Nat} (h1 : l ≤ hi) (h2 : hi ≤ L.length) (h3 : hi ≤ m) (h4 : m ≤ cap) : SlR T S w (sa a m l T.k) (m - l) ((L.take hi).drop l) := by
  obtain ⟨g1, g2, g3⟩ := h
  refine ⟨by simp; omega, by simp; omega, ?_⟩
  cases a with
  | none =>
    rw [sa_none]
    have : cap = 0 := g3
    show m - l = 0
    omega
  | some x =>
    by_cases hm : m = l
    · unfold sa; rw [if_pos hm]
      exact ⟨fun h => absurd h (by omega), fun i hi' => by simp at hi'; omega⟩
    · unfold sa; rw [if_neg hm]
      obtain ⟨gs, gS, c, ty, fz, gh, gl⟩ := g3.1 (by omega)
      have gr := g3.2
      obtain ⟨b, o, s⟩ := x
      simp only at gs gS gh gl gr
      subst gs
      have had : Addr.add ⟨b, o, none⟩ (l * T.k) = ⟨b, o + l * T.k, none⟩ := by unfold Addr.add; split <;> simp_all
      simp only [Option.map_some, had]
      have e1 : (m - l) * T.k + l * T.k = m * T.k := by rw [← Nat.add_mul]; congr 1; omega
      have e2 : m * T.k ≤ cap * T.k := Nat.mul_le_mul_right _ h4
      refine ⟨fun _ => ⟨trivial, gS, c, ty, fz, gh, by omega⟩, fun i hi' j hj => ?_⟩
      obtain ⟨hq, e⟩ := part_get h2 hi'
      rw [e]
      have := gr (l + i) hq j hj
      rw [Nat.add_mul] at this
      rw [← this]; congr 2; omega
theorem SlO.part {w : World} {T : Ty α} (h : SlO T S w a cap L) {l m hi : Nat} (h1 : l ≤ hi) (h2 : hi ≤ L.length) (h3 : hi ≤ m) (h4 : m ≤ cap) : SlO T S w (sa a m l T.k) (m - l) ((L.take hi).drop l) := by
  have hr := (SlO.toR h).part (T := T) (l := l) (m := m) (hi := hi) h1 h2 h3 h4
  obtain ⟨g1, g2, g3⟩ := h
  refine ⟨hr.1, hr.2.1, ?_⟩
  cases a with
  | none => rw [sa_none]; have : cap = 0 := g3; show m - l = 0; omega
  | some x =>
    obtain ⟨gs, gS, ⟨c, ty, gh, gl⟩, gr⟩ := g3
    by_cases hm : m = l
    · unfold sa; rw [if_pos hm]
      have : (m - l) * T.k ≤ cap * T.k := Nat.mul_le_mul_right _ (by omega)
      exact ⟨gs, gS, ⟨c, ty, gh, by omega⟩, fun i hi' => by simp at hi'; omega⟩
    · unfold sa at hr ⊢; rw [if_neg hm] at hr ⊢
      obtain ⟨b, o, s⟩ := x
      simp only at gs gS gh gl gr
      subst gs
      have had : Addr.add ⟨b, o, none⟩ (l * T.k) = ⟨b, o + l * T.k, none⟩ := by unfold Addr.add; split <;> simp_all
      simp only [Option.map_some, had] at hr ⊢
      have e1 : (m - l) * T.k + l * T.k = m * T.k := by rw [← Nat.add_mul]; congr 1; omega
      have e2 : m * T.k ≤ cap * T.k := Nat.mul_le_mul_right _ h4
      exact ⟨trivial, gS, ⟨c, ty, gh, by omega⟩, hr.2.2.2⟩
theorem SlO.shrink {w : World} {T : Ty α} (h : SlO T S w a cap L) {hi m : Nat} (h2 : hi ≤ L.length) (h3 : hi ≤ m) (h4 : m ≤ cap) : SlO T S w a m (L.take hi) := by
  have := h.part (l := 0) (m := m) (Nat.zero_le _) h2 h3 h4
  rw [sa_zero] at this
  simpa using this
theorem rd_part {l m hi : Nat} (h : ∀ w, HeapIs w0 H w → Rd T w a cap L) (h1 : l ≤ hi) (h2 : hi ≤ L.length) (h3 : hi ≤ m) (h4 : m ≤ cap) : ∀ w, HeapIs w0 H w → Rd T w (sa a m l T.k) (m - l) ((L.take hi).drop l) := fun w hw =>
  SlR.part (h w hw) h1 h2 h3 h4
theorem rd_take {m hi : Nat} (h : ∀ w, HeapIs w0 H w → Rd T w a cap L) (h2 : hi ≤ L.length) (h3 : hi ≤ m) (h4 : m ≤ cap) : ∀ w, HeapIs w0 H w → Rd T w a m (L.take hi) := fun w hw => by
  have := SlR.part (h w hw) (l := 0) (m := m) (Nat.zero_le _) h2 h3 h4
  rw [sa_zero] at this
  exact (by simpa using this : SlR T (fun b => b < w.heap.size) w a m (L.take hi))
theorem rd_drop {l : Nat} (h : ∀ w, HeapIs w0 H w → Rd T w a cap L) (h2 : l ≤ L.length) (h3 : L.length ≤ cap) : ∀ w, HeapIs w0 H w → Rd T w (sa a cap l T.k) (cap - l) (L.drop l) := fun w hw => by
  have := SlR.part (h w hw) (l := l) (m := cap) (hi := L.length) h2 (Nat.le_refl _) h3 (Nat.le_refl _)
  exact (by simpa using this : SlR T (fun b => b < w.heap.size) w (sa a cap l T.k) (cap - l) (L.drop l))
def Bnd (o : Option Value) (d r : Nat) : Prop := (o = none ∧ r = d) ∨ ∃ k, o = some (.int k (r : Int))
theorem run_sliceAt {t e : TypeId} {k l hi m len : Nat} {lo h_ mx : Option Value} (hu : P.underlying t = some (.slice e)) (hs : sizeIs P e = some k) (hl : Bnd lo 0 l) (hh : Bnd h_ len hi) (hm : Bnd mx cap m) (hno : h_ = none → mx = none)
    (h1 : l ≤ hi) (h2 : hi ≤ m) (h3 : m ≤ cap) (w : World) : (Instr.sliceAt t (.slice a len cap) lo h_ mx).run P w = .ok (.slice (sa a m l k) (hi - l) (m - l)) w := by
  have a0 : ∀ r : Nat, (0 : Int) ≤ (r : Int) := fun r => by omega
  have a1 : (l : Int) ≤ (hi : Int) := by omega
  have a2 : (hi : Int) ≤ (m : Int) := by omega
  have a3 : (m : Int) ≤ (cap : Int) := by omega
  have a4 : (hi : Int) ≤ (cap : Int) := by omega
  rcases hm with ⟨rfl, rfl⟩ | ⟨km, rfl⟩ <;> rcases hh with ⟨rfl, rfl⟩ | ⟨kh, rfl⟩ <;> rcases hl with ⟨rfl, rfl⟩ | ⟨kl, rfl⟩ <;>
    first
    | (simp at hno; done)
    | (simp [Instr.sliceAt, Instr.slice, Instr.sliceBounds, Instr.sliceBound, run_underlying hu, run_sizeOf hs, asIntOf, h1, h2, h3, a0, a1, a2, a3, a4, sa, Nat.le_trans h2 h3])
theorem p_slice {t e : TypeId} {l hi m len : Nat} {lo h_ mx : Option Operand} {k k' : Nat} {lv hv mv : Option Value} (hx : ev F x = some (.slice a len cap)) (el : lo.map (ev F) = lv.map some) (eh : h_.map (ev F) = hv.map some) (em : mx.map (ev F) = mv.map some)
    (hu : P.underlying t = some (.slice e)) (hs : sizeIs P e = some k) (hl : Bnd lv 0 l) (hh : Bnd hv len hi) (hm : Bnd mv cap m) (hno : hv = none → mv = none) (h1 : l ≤ hi) (h2 : hi ≤ m) (h3 : m ≤ cap) (hk : hi - l = k') :
    Pure ds P n w0 ⟨dst, .slice t x lo h_ mx, ty, pos, after, guard⟩ F H (.slice (sa a m l k) k' (m - l)) := fun b w hb _ => by
  have ee : ∀ {o : Option Operand} {u : Option Value}, o.map (ev F) = u.map some → o.map b.eval = u := fun {o u} h => by
    cases o <;> cases u <;> simp at h ⊢
    exact hb.eval h
  have := run_sliceAt (P := P) (a := a) hu hs hl hh hm hno h1 h2 h3 w
  simp [execOp, hb.eval hx, ee el, ee eh, ee em, this, hk]
/-- s[:h] -/
theorem p_sliceH {t e : TypeId} {k : IntKind} {h : Int} (hx : ev F x = some (.slice a L.length cap)) (hy : ev F y = some (.int k h)) (hu : P.underlying t = some (.slice e)) (hs : sizeIs P e = some T.k) (h0 : 0 ≤ h) (h1 : h ≤ (L.length : Int)) (hr : ∀ w, HeapIs w0 H w → Rd T w a cap L) :
    Pure ds P n w0 ⟨dst, .slice t x none (some y) none, ty, pos, after, guard⟩ F H (.slice a (L.take h.toNat).length cap) := fun b' w' hb' hw' => by
  have hc : L.length ≤ cap := (hr w' hw').1
  have hh : h = (h.toNat : Int) := by omega
  have := p_slice (P := P) (n := n) (w0 := w0) (ds := ds) (H := H) (dst := dst) (ty := ty) (pos := pos) (after := after) (guard := guard) (l := 0) (hi := h.toNat) (m := cap) (lv := none) (hv := some (.int k h)) (mv := none) (lo := none) (h_ := some y) (mx := none) (k' := (L.take h.toNat).length) hx rfl (by simp [hy]) rfl hu hs (.inl ⟨rfl, rfl⟩) (.inr ⟨k, by rw [← hh]⟩) (.inl ⟨rfl, rfl⟩) (fun h => by cases h) (Nat.zero_le _) (by omega) (Nat.le_refl _) (by simp; omega)
  rw [sa_zero] at this
  exact this b' w' hb' hw'
/-- s[l:] -/
theorem p_sliceL {t e : TypeId} {k : IntKind} {l : Int} (hx : ev F x = some (.slice a L.length cap)) (hy : ev F y = some (.int k l)) (hu : P.underlying t = some (.slice e)) (hs : sizeIs P e = some T.k) (h0 : 0 ≤ l) (h1 : l ≤ (L.length : Int)) (hr : ∀ w, HeapIs w0 H w → Rd T w a cap L) :
    Pure ds P n w0 ⟨dst, .slice t x (some y) none none, ty, pos, after, guard⟩ F H (.slice (sa a cap l.toNat T.k) (L.drop l.toNat).length (cap - l.toNat)) := fun b' w' hb' hw' => by
  have hc : L.length ≤ cap := (hr w' hw').1
  have hh : l = (l.toNat : Int) := by omega
  exact p_slice (P := P) (n := n) (w0 := w0) (ds := ds) (H := H) (l := l.toNat) (hi := L.length) (m := cap) (lv := some (.int k l)) (hv := none) (mv := none) hx (by simp [hy]) rfl rfl hu hs (.inr ⟨k, by rw [← hh]⟩) (.inl ⟨rfl, rfl⟩) (.inl ⟨rfl, rfl⟩) (fun _ => rfl) (by omega) hc (Nat.le_refl _) (by simp) b' w' hb' hw'
/-- s[l:h] -/
theorem p_sliceLH {t e : TypeId} {z : Operand} {k k2 : IntKind} {l h : Int} (hx : ev F x = some (.slice a L.length cap)) (hy : ev F y = some (.int k l)) (hz : ev F z = some (.int k2 h)) (hu : P.underlying t = some (.slice e)) (hs : sizeIs P e = some T.k) (h0 : 0 ≤ l) (h1 : l ≤ h) (h2 : h ≤ (L.length : Int)) (hr : ∀ w, HeapIs w0 H w → Rd T w a cap L) :
    Pure ds P n w0 ⟨dst, .slice t x (some y) (some z) none, ty, pos, after, guard⟩ F H (.slice (sa a cap l.toNat T.k) ((L.take h.toNat).drop l.toNat).length (cap - l.toNat)) := fun b' w' hb' hw' => by
  have hc : L.length ≤ cap := (hr w' hw').1
  have hh : l = (l.toNat : Int) := by omega
  have hh2 : h = (h.toNat : Int) := by omega
  exact p_slice (P := P) (n := n) (w0 := w0) (ds := ds) (H := H) (l := l.toNat) (hi := h.toNat) (m := cap) (lv := some (.int k l)) (hv := some (.int k2 h)) (mv := none) hx (by simp [hy]) (by simp [hz]) rfl hu hs (.inr ⟨k, by rw [← hh]⟩) (.inr ⟨k2, by rw [← hh2]⟩) (.inl ⟨rfl, rfl⟩) (fun h => by cases h) (by omega) (by omega) (Nat.le_refl _) (by simp; omega) b' w' hb' hw'
/-- s[:h:m] -/
theorem p_sliceHM {t e : TypeId} {z : Operand} {k k2 : IntKind} {h m : Int} (hx : ev F x = some (.slice a L.length cap)) (hy : ev F y = some (.int k h)) (hz : ev F z = some (.int k2 m)) (hu : P.underlying t = some (.slice e)) (hs : sizeIs P e = some T.k) (h0 : 0 ≤ h) (h1 : h ≤ m) (h2 : m ≤ (L.length : Int)) (hr : ∀ w, HeapIs w0 H w → Rd T w a cap L) :
    Pure ds P n w0 ⟨dst, .slice t x none (some y) (some z), ty, pos, after, guard⟩ F H (.slice a (L.take h.toNat).length m.toNat) := fun b' w' hb' hw' => by
  have hc : L.length ≤ cap := (hr w' hw').1
  have hh : h = (h.toNat : Int) := by omega
  have hh2 : m = (m.toNat : Int) := by omega
  have := p_slice (P := P) (n := n) (w0 := w0) (ds := ds) (H := H) (dst := dst) (ty := ty) (pos := pos) (after := after) (guard := guard) (l := 0) (hi := h.toNat) (m := m.toNat) (lv := none) (lo := none) (h_ := some y) (mx := some z) (hv := some (.int k h)) (mv := some (.int k2 m)) (k' := (L.take h.toNat).length) hx rfl (by simp [hy]) (by simp [hz]) hu hs (.inl ⟨rfl, rfl⟩) (.inr ⟨k, by rw [← hh]⟩) (.inr ⟨k2, by rw [← hh2]⟩) (fun h => by cases h) (Nat.zero_le _) (by omega) (by omega) (by simp; omega)
  rw [sa_zero] at this
  exact this b' w' hb' hw'
/-- s[l:h:m], of which only the bounds matter -/
theorem p_sliceLHM {t e : TypeId} {z u : Operand} {k k2 k3 : IntKind} {l h m : Int} (hx : ev F x = some (.slice a L.length cap)) (hy : ev F y = some (.int k l)) (hz : ev F z = some (.int k2 h)) (hu' : ev F u = some (.int k3 m)) (hu : P.underlying t = some (.slice e)) (hs : sizeIs P e = some T.k) (h0 : 0 ≤ l) (h1 : l ≤ h) (h2 : h ≤ m) (h3 : m ≤ (L.length : Int)) (hr : ∀ w, HeapIs w0 H w → Rd T w a cap L) :
    Pure ds P n w0 ⟨dst, .slice t x (some y) (some z) (some u), ty, pos, after, guard⟩ F H (.slice (sa a m.toNat l.toNat T.k) ((L.take h.toNat).drop l.toNat).length (m.toNat - l.toNat)) := fun b' w' hb' hw' => by
  have hc : L.length ≤ cap := (hr w' hw').1
  have hh : l = (l.toNat : Int) := by omega
  have hh2 : h = (h.toNat : Int) := by omega
  have hh3 : m = (m.toNat : Int) := by omega
  exact p_slice (P := P) (n := n) (w0 := w0) (ds := ds) (H := H) (l := l.toNat) (hi := h.toNat) (m := m.toNat) (lv := some (.int k l)) (hv := some (.int k2 h)) (mv := some (.int k3 m)) hx (by simp [hy]) (by simp [hz]) (by simp [hu']) hu hs (.inr ⟨k, by rw [← hh]⟩) (.inr ⟨k2, by rw [← hh2]⟩) (.inr ⟨k3, by rw [← hh3]⟩) (fun h => by cases h) (by omega) (by omega) (by omega) (by simp; omega) b' w' hb' hw'
theorem o_shrink {i m hi : Nat} {l : List Oper} (hi' : H[i]? = some (own T S a cap L)) (h2 : hi ≤ L.length) (h3 : hi ≤ m) (h4 : ∀ w, SlO T S w a cap L → m ≤ cap) (h : SO r ds P n w0 ops Q l F (H.set i (own T S a m (L.take hi)))) : SO r ds P n w0 ops Q l F H := fun b w hb hw => by
  have g := hw.at hi'
  exact h b w hb (hw.change hi' ⟨rfl, rfl, rfl⟩ (Nat.le_refl _) (fun b hb => .inl hb) (fun _ _ _ => rfl) (fun w1 w2 ha hA => SlO.agree ha hA) (SlO.shrink g.here h2 h3 (h4 w g.here)))

theorem rd_takeC {hi : Nat} (h : ∀ w, HeapIs w0 H w → Rd T w a cap L) (h2 : hi ≤ L.length) : ∀ w, HeapIs w0 H w → Rd T w a cap (L.take hi) := fun w hw =>
  rd_take h h2 (Nat.le_trans h2 (h w hw).1) (Nat.le_refl _) w hw
theorem rd_dropC {l : Nat} (h : ∀ w, HeapIs w0 H w → Rd T w a cap L) (h2 : l ≤ L.length) : ∀ w, HeapIs w0 H w → Rd T w (sa a cap l T.k) (cap - l) (L.drop l) := fun w hw => rd_drop h h2 (h w hw).1 w hw
theorem rd_partC {l hi : Nat} (h : ∀ w, HeapIs w0 H w → Rd T w a cap L) (h1 : l ≤ hi) (h2 : hi ≤ L.length) : ∀ w, HeapIs w0 H w → Rd T w (sa a cap l T.k) (cap - l) ((L.take hi).drop l) := fun w hw => rd_part h h1 h2 (Nat.le_trans h2 (h w hw).1) (Nat.le_refl _) w hw
theorem HeapIs.shrinkTo {w : World} {i m hi : Nat} (hw : HeapIs w0 H w) (hi' : H[i]? = some (own T S a cap L)) (h2 : hi ≤ L.length) (h3 : hi ≤ m) (h4 : m ≤ cap) : HeapIs w0 (H.set i (own T S a m (L.take hi))) w := by
  have g := hw.at hi'
  exact hw.change hi' ⟨rfl, rfl, rfl⟩ (Nat.le_refl _) (fun b hb => .inl hb) (fun _ _ _ => rfl) (fun w1 w2 ha hA => SlO.agree (T := T) (S := S) (a := a) (cap := m) (L := L.take hi) ha hA) (SlO.shrink g.here h2 h3 h4)
theorem HeapIs.shrinkC {w : World} {i hi : Nat} (hw : HeapIs w0 H w) (hi' : H[i]? = some (own T S a cap L)) (h2 : hi ≤ L.length) : HeapIs w0 (H.set i (own T S a cap (L.take hi))) w := by
  have g : SlO T S w a cap L := (hw.at hi').here
  exact hw.shrinkTo hi' h2 (Nat.le_trans h2 g.1) (Nat.le_refl _)
theorem HeapIs.shrinkM {w : World} {i m hi : Nat} (hw : HeapIs w0 H w) (hi' : H[i]? = some (own T S a cap L)) (h2 : hi ≤ m) (h3 : m ≤ L.length) : HeapIs w0 (H.set i (own T S a m (L.take hi))) w := by
  have g : SlO T S w a cap L := (hw.at hi').here
  exact hw.shrinkTo hi' (Nat.le_trans h2 h3) h2 (Nat.le_trans h3 g.1)
theorem o_shrinkC {i hi : Nat} {l : List Oper} (hi' : H[i]? = some (own T S a cap L)) (h2 : hi ≤ L.length) (h : SO r ds P n w0 ops Q l F (H.set i (own T S a cap (L.take hi)))) : SO r ds P n w0 ops Q l F H := fun b w hb hw => h b w hb (hw.shrinkC hi' h2)
theorem q_shrinkC {i hi : Nat} {e : Exit} (hi' : H[i]? = some (own T S a cap L)) (h2 : hi ≤ L.length) (h : SQ ds n w0 Q e F (H.set i (own T S a cap (L.take hi)))) : SQ ds n w0 Q e F H := fun b w hb hw => h b w hb (hw.shrinkC hi' h2)
theorem c_shrinkC {i hi : Nat} {c : Code} (hi' : H[i]? = some (own T S a cap L)) (h2 : hi ≤ L.length) (h : SC r ds P n w0 Q c F (H.set i (own T S a cap (L.take hi)))) : SC r ds P n w0 Q c F H := fun b w hb hw => h b w hb (hw.shrinkC hi' h2)
theorem o_shrinkM {i m hi : Nat} {l : List Oper} (hi' : H[i]? = some (own T S a cap L)) (h2 : hi ≤ m) (h3 : m ≤ L.length) (h : SO r ds P n w0 ops Q l F (H.set i (own T S a m (L.take hi)))) : SO r ds P n w0 ops Q l F H := fun b w hb hw => h b w hb (hw.shrinkM hi' h2 h3)
theorem q_shrinkM {i m hi : Nat} {e : Exit} (hi' : H[i]? = some (own T S a cap L)) (h2 : hi ≤ m) (h3 : m ≤ L.length) (h : SQ ds n w0 Q e F (H.set i (own T S a m (L.take hi)))) : SQ ds n w0 Q e F H := fun b w hb hw => h b w hb (hw.shrinkM hi' h2 h3)

/-! ### nil? -/
theorem p_eqNil {t e : TypeId} {len : Nat} (hx : ev F x = some (.slice a len cap)) (hy : ev F y = some (.slice none 0 0)) (hu : P.underlying t = some (.slice e)) : Pure ds P n w0 ⟨dst, .binOp .eql t x y tY, ty, pos, after, guard⟩ F H (.bool a.isNone) := fun b w hb _ => by
  have h : (Op.equal t (.slice a len cap) (.slice none 0 0)).run P w = .ok a.isNone w := by
    show ((Go.underlying t).bind _).run P w = _
    refine (run_bind (P := P) (Go.underlying t) _ w).trans ?_
    rw [run_underlying hu]
    cases a <;> rfl
  simp [execOp, hb.eval hx, hb.eval hy, eqGuard, binOp, h]
theorem p_nilCheck {B : Nat} {j : Nat} (hx : ev F x = some (.pointer (some ⟨B, j, none⟩))) : Pure ds P n w0 ⟨dst, .nilCheck x, ty, pos, after, guard⟩ F H (.pointer (some ⟨B, j, none⟩)) := fun b w hb _ => by
  simp [execOp, hb.eval hx]
theorem rd_isNone {w : World} (h : Rd T w a cap L) (ha : a.isNone = true) : L = [] := by
  cases a with
  | none => have h1 := h.1; have : cap = 0 := h.2.2; exact List.length_eq_zero_iff.1 (by omega)
  | some x => cases ha

/-! ### A store into an element -/
theorem HeapIs.storeE {w : World} {i idx j : Nat} {vs : List Value} {z : α} (h : HeapIs w0 H w) (hi : H[i]? = some (own T S a cap L)) (hidx : idx < L.length) (hv : ∀ v ∈ vs, one1 v = true) (hj : j + vs.length ≤ T.k) (henc : T.enc z = setCells (T.enc L[idx]) j vs) :
    ∃ w', (storeCells ((ea a (idx * T.k)).add j) vs 0).run P w = .ok () w' ∧ HeapIs w0 (H.set i (own T S a cap (L.set idx z))) w' := by
  have g : SlO T S w a cap L := (h.at hi).here
  obtain ⟨g1, g2, g3⟩ := g
  cases a with
  | none => have : cap = 0 := g3; omega
  | some p =>
    obtain ⟨gs, gS, ⟨c, ty, gh, gl⟩, gr⟩ := g3
    obtain ⟨b, o, s⟩ := p
    simp only at gs gS gh gl gr
    subst gs
    have had : Addr.add (ea (some ⟨b, o, none⟩) (idx * T.k)) j = ⟨b, o + idx * T.k + j, none⟩ := by
      rw [ea_some rfl]; unfold Addr.add; split <;> simp_all
    rw [had]
    have hb1 : idx * T.k + T.k ≤ cap * T.k := by
      calc idx * T.k + T.k = (idx + 1) * T.k := by rw [Nat.add_mul]; omega
        _ ≤ cap * T.k := Nat.mul_le_mul_right _ (by omega)
    obtain ⟨w', c', h1, h2, h3, h4, h5, h6, h7⟩ := run_storeCells (P := P) (b := b) (o := o + idx * T.k + j) vs 0 w c ty gh hv (by omega)
    refine ⟨w', h1, h.change hi h5 (by omega) (fun b hb => .inl hb) (fun k _ hk => h7 k (fun e => hk (e ▸ gS))) (fun w1 w2 ha hA => SlO.agree (T := T) (S := S) (a := some ⟨b, o, none⟩) (cap := cap) (L := L.set idx z) ha hA) ?_⟩
    refine ⟨by simpa using g1, by simpa using g2, rfl, gS, ⟨c', ty, h2, by show o + cap * T.k ≤ c'.size; omega⟩, fun m hm q hq => ?_⟩
    have hm' : m < L.length := by simpa using hm
    have hcell : w'.cell? ⟨b, o + m * T.k + q, none⟩ = c'[o + m * T.k + q]? := by simp [World.cell?, h2]
    rw [hcell, h4]
    have old := gr m hm' q hq
    have hold : w.cell? ⟨b, o + m * T.k + q, none⟩ = c[o + m * T.k + q]? := by simp [World.cell?, gh]
    rw [hold] at old
    by_cases hmi : m = idx
    · subst hmi
      rw [List.getElem_set_self, henc]
      unfold setCells
      have hl := T.len L[m]
      by_cases e1 : j ≤ q ∧ q < j + vs.length
      · rw [if_pos (by omega)]
        rw [List.append_assoc, List.getElem?_append_right (by simp; omega), List.getElem?_append_left (by simp; omega)]
        congr 1; simp; omega
      · rw [if_neg (by omega), old]
        rcases Nat.lt_or_ge q j with h' | h'
        · rw [List.append_assoc, List.getElem?_append_left (by simp; omega)]
          simp [List.getElem?_take, h']
        · rw [List.getElem?_append_right (by simp; omega)]
          simp only [List.getElem?_drop, List.length_append, List.length_take]
          congr 1; omega
    · rw [List.getElem_set_ne (fun e => hmi e.symm)]
      have : m * T.k + q < idx * T.k + j ∨ idx * T.k + j + vs.length ≤ m * T.k + q := by
        rcases Nat.lt_or_gt_of_ne hmi with hlt | hlt
        · have : (m + 1) * T.k ≤ idx * T.k := Nat.mul_le_mul_right _ hlt
          rw [Nat.add_mul] at this; omega
        · have : (idx + 1) * T.k ≤ m * T.k := Nat.mul_le_mul_right _ hlt
          rw [Nat.add_mul] at this; omega
      rw [if_neg (by omega), old]
theorem o_storeF {t : TypeId} {i idx j m : Nat} {v : Value} {vs : List Value} {z : α} (hx : ev F x = some (.pointer (some ((ea a (idx * T.k)).add j)))) (hy : ev F y = some v) (hvs : v.cells.toList = vs) (hi : H[i]? = some (own T S a cap L)) (hidx : idx < L.length) (ht : sizeIs P t = some m) (hm : vs.length = m) (hv : (vs.all one1) = true)
    (hj : Nat.ble (j + vs.length) T.k = true) (henc : T.enc z = setCells (T.enc L[idx]) j vs) (hF : Sub F F') (h : SO r ds P n w0 ops Q rest F' (H.set i (own T S a cap (L.set idx z)))) : SO r ds P n w0 ops Q (⟨none, .store t x y, ty, pos, after, none⟩ :: rest) F H := fun b w hb hw =>
  wpL_plain rfl (fun _ h => by cases h) fun K hK => by
    subst hm
    obtain ⟨w', h1, h2⟩ := hw.storeE (P := P) hi hidx (fun v hv' => List.all_eq_true.1 hv v hv') (Nat.le_of_ble_eq_true hj) henc
    have hc : v.cells.size = vs.length := by rw [← hvs]; simp
    have hrun : (execOp b.eval ⟨none, .store t x y, ty, pos, after, none⟩).run P w = .ok .skip w' := by
      simp [execOp, hb.eval hx, hb.eval hy, Instr.storeAt, Instr.sureAddr, storeVar, run_bind, run_sizeOf ht, hc, hvs, h1]
    unfold Oper.wp
    rw [hrun]
    exact hK _ _ (h _ _ (hb.sub hF) h2)
theorem o_storeW {t : TypeId} {i idx m : Nat} {v : Value} {vs : List Value} {z : α} (hx : ev F x = some (.pointer (some (ea a (idx * T.k))))) (hy : ev F y = some v) (hvs : v.cells.toList = vs) (hi : H[i]? = some (own T S a cap L)) (hidx : idx < L.length) (ht : sizeIs P t = some m) (hm : vs.length = m) (hv : (vs.all one1) = true)
    (hj : Nat.beq vs.length T.k = true) (henc : T.enc z = vs) (hF : Sub F F') (h : SO r ds P n w0 ops Q rest F' (H.set i (own T S a cap (L.set idx z)))) : SO r ds P n w0 ops Q (⟨none, .store t x y, ty, pos, after, none⟩ :: rest) F H := by
  have e := Nat.eq_of_beq_eq_true hj
  refine o_storeF (j := 0) (z := z) (by simpa [Addr.add] using hx) hy hvs hi hidx ht hm hv (by rw [Nat.zero_add, e]; exact Nat.ble_self_eq_true _) ?_ hF h
  have hl := T.len L[idx]
  unfold setCells
  rw [henc, List.take_zero, List.nil_append, Nat.zero_add, List.drop_of_length_le (by omega), List.append_nil]

/-! ### A new slice of zeros -/
theorem zeros_flat {zc : Array Value} {z : α} (h : T.enc z = zc.toList) (hk : 0 < T.k) (m : Nat) : ((Array.range (m * T.k)).map (zc[· % zc.size]!)).toList = (List.replicate m z).flatMap T.enc := by
  have hs : zc.size = T.k := by rw [← T.len z, h]; simp
  have hfl := flat_len (List.replicate m z) T.enc T.len
  rw [List.length_replicate] at hfl
  apply List.ext_getElem?
  intro q
  by_cases hq : q < m * T.k
  · have hd := Nat.div_add_mod q T.k
    have hm := Nat.mod_lt q hk
    have hi : q / T.k < m := by rw [Nat.div_lt_iff_lt_mul hk]; exact hq
    have e1 : q = q / T.k * T.k + q % T.k := by rw [Nat.mul_comm]; omega
    have h2 := flat_get T.enc T.len (List.replicate m z) (q / T.k) (q % T.k) (by simpa using hi) hm
    rw [← e1] at h2
    rw [h2, List.getElem_replicate, h, Array.getElem?_toList, Array.getElem?_toList, Array.getElem?_map, Array.getElem?_range, if_pos hq, hs]
    have : q % T.k < zc.size := by omega
    simp [this]
  · rw [List.getElem?_eq_none (by simp; omega), List.getElem?_eq_none (by omega)]
theorem o_makeSlice {t e : TypeId} {bytes : Nat} {z : α} {k k2 : IntKind} {m : Int} {zs : List Value} (hx : ev F x = some (.int k m)) (hy : ev F y = some (.int k2 m)) (hu : P.underlying t = some (.slice e)) (he : elemIs P e T.k bytes) (hz : zeroOf P e = some zs) (hzs : T.enc z = zs) (hk : 0 < T.k) (h0 : 0 ≤ m) (h1 : m * (bytes + 1) ≤ 140737488355328) (hn : Nat.blt d n = true)
    (h : ∀ S a, SO r ds P n w0 ops Q rest ((d, .slice a (List.replicate m.toNat z).length m.toNat) :: F) (own T S a m.toNat (List.replicate m.toNat z) :: H)) : SO r ds P n w0 ops Q (⟨some d, .makeSlice t x y, ty, pos, after, none⟩ :: rest) F H := fun b w hb hw =>
  wpL_plain rfl (fun _ h => by cases h) fun K hK => by
    obtain ⟨ti, zv, hi, hzv, hsz, hby, hzc⟩ := he
    have hsize : sizeIs P e = some T.k := by simp [sizeIs, hi, hsz]
    obtain ⟨mm, rfl⟩ : ∃ mm : Nat, m = mm := ⟨m.toNat, by omega⟩
    rw [Int.toNat_natCast] at h
    have hb1 : (bytes : Int) * mm ≤ 140737488355328 := by
      have e1 : (mm : Int) * (bytes + 1) = bytes * mm + mm := by rw [Int.mul_add, Int.mul_one, Int.mul_comm]
      omega
    have hm1 : (mm : Int) ≤ 140737488355328 := by
      have e1 : (mm : Int) * (bytes + 1) = bytes * mm + mm := by rw [Int.mul_add, Int.mul_one, Int.mul_comm]
      have : (0 : Int) ≤ bytes * mm := Int.mul_nonneg (by omega) (by omega)
      omega
    have hw64 : IntKind.i64.wrap (mm : Int) = mm := wrap_i64 (by omega)
    have hzz : zv.cells.toList = zs := by
      have : zeroOf P e = some zv.cells.toList := by simp [zeroOf, hi, hzv]
      rw [hz] at this; exact (Option.some.inj this).symm
    have hroomq : ∀ (m : Nat) (w2 : World), (askRoom m).run P w2 = .ok () w2 := by intro m w2; unfold askRoom; split <;> rfl
    have hzr : (zeroValue e).run P w = .ok zv w := by simp [zeroValue, run_typeInfo hi, hzv]
    have hflat := zeros_flat (T := T) (zc := zv.cells) (z := z) (by rw [hzs, hzz]) hk mm
    have hbig : ¬ ((bytes : Int) * mm > 2 ^ 48) := by
      have : (2 : Int) ^ 48 = 281474976710656 := by decide
      omega
    have hrun : (execOp b.eval ⟨some d, .makeSlice t x y, ty, pos, after, none⟩).run P w = .ok (.value (.slice (some ⟨w.heap.size, 0, none⟩) mm mm)) { w with heap := w.heap.push (.cells ((List.replicate mm z).flatMap T.enc).toArray e) } := by
      have hz0 : mm * T.k = 0 ↔ mm = 0 := by
        constructor
        · intro h; rcases Nat.mul_eq_zero.1 h with h | h <;> omega
        · rintro rfl; simp
      have hms : (Instr.makeSlice t (.int k mm) (.int k2 mm)).run P w = .ok (.slice (some ⟨w.heap.size, 0, none⟩) mm mm) { w with heap := w.heap.push (.cells ((List.replicate mm z).flatMap T.enc).toArray e) } := by
        unfold Instr.makeSlice
        simp only [run_bind, run_underlying hu, asInt, asIntOf, run_typeInfo hi, hw64, hby, run_pure]
        rw [if_neg (by simp; omega)]
        simp only [run_bind, run_pure, hroomq, run_sizeOf hsize, Int.toNat_natCast]
        by_cases h0 : mm = 0
        · subst h0
          simp [newRow, newObj, Sem.run]
          rw [show (Array.map (fun _ => (default : Value)) (Array.range 0)) = #[] from Array.ext' (by simp)]
        · rw [if_neg (fun h => h0 (hz0.1 h))]
          simp only [run_bind, hzr, run_pure, newRow, newObj, Sem.run]
          rw [← hflat]
      simp only [execOp, run_bind, run_pure, hb.eval hx, hb.eval hy, hms]
    unfold Oper.wp
    rw [hrun]
    refine hK _ _ ?_
    have hlr : (List.replicate mm z).length = mm := List.length_replicate
    have h' := h (fun c => c = w.heap.size) (some ⟨w.heap.size, 0, none⟩)
    rw [hlr] at h'
    refine h' _ _ (hb.put hn _) (hw.push _ (fun w1 w2 ha hA => SlO.agree (T := T) ha hA) ?_)
    refine SlO.fresh (e := e) (cs := (List.replicate mm z).flatMap T.enc) ?_ [] (by simp) (by simp) (by rw [flat_len _ T.enc T.len, hlr]; exact Nat.le_refl _) (by rw [hlr]; omega)
    simp

/-! ### Function values -/
theorem run_callV {f : FuncId} {fn : Func} {c : Code} {g : Operand} {args : Array Operand} {ats : Array TypeId} {vs caps : List Value} {a : Act} {w : World} (ha : Ok n ds F a) (hg : ev F g = some (.func (.func f) #[] caps.toArray)) (hv : evs F args.toList = some vs) (hf : P.funcs[f]? = some fn) (hb : fn.body = some c) (hname : (fn.name == "runtime.NumGoroutine") = false) :
    (execOp a.eval ⟨dst, .call { callee := .value g, args := args, argTypes := ats }, ty, pos, after, guard⟩).run P w = .ok (.enter f (vs ++ caps).toArray) w := by
  have h1 : args.map a.eval = vs.toArray := by
    rw [← ha.evals hv]; apply Array.ext'; simp
  have h3 : (callFunc f (vs ++ caps).toArray).run P w = .ok (.enter f (vs ++ caps).toArray) w := by
    have hname' : fn.name ≠ "runtime.NumGoroutine" := by intro e; rw [e] at hname; simp at hname
    simp [callFunc, program, Sem.run, hf, hb, hname']
  simp [execOp, resolve, h1, ha.eval hg, Deferred.ofValue, invoke, h3]
theorem o_call0V {f : FuncId} {g : Operand} {args : Array Operand} {ats : Array TypeId} {vs caps : List Value} {Pre : World → Prop} {v : Value} (hg : ev F g = some (.func (.func f) #[] caps.toArray)) (hv : evs F args.toList = some vs) (hf : Fn0 P f (vs ++ caps) Pre v) (hP : HasFn P f) (hpre : ∀ w, HeapIs w0 H w → Pre w) (hn : Nat.blt d n = true)
    (h : SO r ds P n w0 ops Q rest ((d, v) :: F) H) : SO r ds P n w0 ops Q (⟨some d, .call { callee := .value g, args := args, argTypes := ats }, ty, pos, after, none⟩ :: rest) F H := fun a w ha hw =>
  wpL_plain rfl (fun _ h => by cases h) fun K hK => by
    obtain ⟨fn, c, h1, h2, h3⟩ := hP
    unfold Oper.wp
    rw [run_callV ha hg hv h1 h2 h3]
    simp only [Oper.upon]
    refine (hf w (hpre w hw)).mono ?_
    rintro e w' ⟨rfl, hb⟩
    exact hK _ _ (h _ _ (ha.put hn _) (hw.below hb))
theorem p_makeFunc {f : FuncId} {caps : Array Operand} {vs : List Value} (hv : evs F caps.toList = some vs) : Pure ds P n w0 ⟨dst, .makeFunc (.func f) #[] caps, ty, pos, after, guard⟩ F H (.func (.func f) #[] vs.toArray) := fun b w hb _ => by
  have h1 : caps.map b.eval = vs.toArray := by
    rw [← hb.evals hv]; apply Array.ext'; simp
  simp [execOp, Instr.makeFunc, h1]

/-! ### Boxes that were there -/
theorem box_lt {w : World} {B : Nat} {cs : List Value} {U : TypeId} (h : (box B cs U).A w) : B < w.heap.size := by
  have h' : w.heap[B]? = some (.cells cs.toArray U (0, 0)) := h
  exact (Array.getElem?_eq_some_iff.1 h').1
theorem box_below {w w' : World} {B : Nat} {cs : List Value} {U : TypeId} (hb : Below w.heap.size w w') (h : (box B cs U).A w) : (box B cs U).A w' := by
  have h' : w.heap[B]? = some (.cells cs.toArray U (0, 0)) := h
  show w'.heap[B]? = _
  rw [hb.block B (box_lt h), h']
theorem rbox_base {i B : Nat} {cs : List Value} {U : TypeId} (hi : H[i]? = some (base w0)) (h : (box B cs U).A w0) : ∀ w, HeapIs w0 H w → (box B cs U).A w := fun _ hw => box_below (hw.toBelow hi) h
theorem pre_base {i : Nat} {Pr : World → Prop} (hi : H[i]? = some (base w0)) (hs : ∀ w w', Below w.heap.size w w' → Pr w → Pr w') (h : Pr w0) : ∀ w, HeapIs w0 H w → Pr w := fun _ hw => hs _ _ (hw.toBelow hi) h
theorem p_loadR {t : TypeId} {B j : Nat} {cs : List Value} {U : TypeId} {v : Value} (hx : ev F x = some (.pointer (some ⟨B, j, none⟩))) (hr : ∀ w, HeapIs w0 H w → (box B cs U).A w) (ht : shp P t = some none) (hv : cs[j]? = some v) :
    Pure ds P n w0 ⟨dst, .load t x, ty, pos, after, guard⟩ F H v := fun a w ha hw => by
  have hc : w.cell? ⟨B, j, none⟩ = some v := by rw [box_cell (hr w hw), hv]
  simp [execOp, ha.eval hx, Instr.loadAt, Instr.sureAddr, run_loadVar_one ht hc]
theorem p_loadR_agg {t : TypeId} {B j m : Nat} {cs vs : List Value} {U : TypeId} (hx : ev F x = some (.pointer (some ⟨B, j, none⟩))) (hr : ∀ w, HeapIs w0 H w → (box B cs U).A w) (ht : shp P t = some (some m)) (hv : (cs.drop j).take m = vs) (hl : vs.length = m) :
    Pure ds P n w0 ⟨dst, .load t x, ty, pos, after, guard⟩ F H (.agg vs.toArray) := fun a w ha hw => by
  subst hv
  have hc : ∀ q, q < m → w.cell? (Addr.add ⟨B, j, none⟩ q) = ((cs.drop j).take m)[q]? := fun q hq => by
    rw [box_cell_add (hr w hw)]; simp [List.getElem?_take, hq]
  simp [execOp, ha.eval hx, Instr.loadAt, Instr.sureAddr, run_loadVar_agg ht hl hc]
end
end Go.Sx

/- Calls that change what they are handed; append within a slice, and clear behind it. -/
namespace Go.Sx
open Go.RowKit

/-- What was there when the call began, but for what it was handed to change. -/
def outer (w0 : World) (pre : List Ent) : Ent := ⟨fun b => b < w0.heap.size ∧ ¬ ∃ e ∈ pre, e.S b, fun w => ∀ b, b < w0.heap.size → (¬ ∃ e ∈ pre, e.S b) → w.heap[b]? = w0.heap[b]?⟩
/-- The call is handed the entries of pre and gives back those of post. -/
def FnX (P : Program) (f : FuncId) (args : List Value) (pre : List Ent) (Pr : World → Prop) (π : Type) (val : π → Value) (post : π → List Ent) : Prop :=
  ∀ w, HeapIs w (outer w pre :: pre) w → Pr w → Calls P f args.toArray w (fun e w' => ∃ p, e = .returned (val p) ∧ HeapIs w (outer w pre :: post p) w')
def EndX (w0 : World) (pre : List Ent) (π : Type) (val : π → Value) (post : π → List Ent) : Ending → World → Prop := fun e w' => ∃ p, e = .returned (val p) ∧ HeapIs w0 (outer w0 pre :: post p) w'

section
variable {α : Type} {P : Program} {n : Nat} {w0 : World} {r : Option Nat} {ds : List Deferred} {Q : Exit → Act → World → Prop} {F F' : List (Nat × Value)} {H H' : List Ent} {ops : Array Oper}
variable {ty : TypeId} {pos : String} {after : Array Edge} {guard : Option (Nat × Bool)} {dst : Option Tmp} {rest : List Oper} {d : Nat} {x y : Operand}
variable {T : Ty α} {tY : TypeId} {a : Option Addr} {cap : Nat} {L : List α} {S : Nat → Prop}

theorem HeapIs.inner {w : World} {pre R : List Ent} (hw : HeapIs w0 (pre ++ R) w) : HeapIs w (outer w pre :: pre) w := by
  refine ⟨⟨rfl, rfl, rfl⟩, Nat.le_refl _, fun e he => ?_, List.pairwise_cons.2 ⟨fun e he b hb hb' => hb.2 ⟨e, he, hb'⟩, hw.apart.sublist (List.sublist_append_left _ _)⟩⟩
  rcases List.mem_cons.1 he with rfl | he
  · exact ⟨fun w1 w2 ha hA b h1 h2 => (ha b ⟨h1, h2⟩).trans (hA b h1 h2), fun b hb => hb.1, fun b _ _ => rfl⟩
  · exact hw.good e (by simp [he])
theorem HeapIs.back {w w' : World} {pre post R : List Ent} (hw : HeapIs w0 (pre ++ R) w) (h : HeapIs w (outer w pre :: post) w') : HeapIs w0 (post ++ R) w' := by
  have ho := h.good (outer w pre) (by simp)
  have hp := List.pairwise_cons.1 h.apart
  have hpr := List.pairwise_append.1 hw.apart
  have far : ∀ e ∈ R, ∀ b, e.S b → b < w.heap.size ∧ ¬ ∃ e ∈ pre, e.S b := fun e he b hb =>
    ⟨(hw.good e (by simp [he])).bound b hb, fun ⟨f, hf, hfb⟩ => hpr.2.2 f hf e he b hfb hb⟩
  refine ⟨⟨h.same.os.trans hw.same.os, h.same.tape.trans hw.same.tape, h.same.output.trans hw.same.output⟩, Nat.le_trans hw.size h.size, fun e he => ?_, List.pairwise_append.2 ⟨hp.2, hpr.2.1, fun f hf e he b hb hb' => hp.1 f hf b (far e he b hb') hb⟩⟩
  rcases List.mem_append.1 he with he | he
  · exact h.good e (by simp [he])
  · have g := hw.good e (by simp [he])
    exact ⟨g.stable, fun b hb => Nat.lt_of_lt_of_le (g.bound b hb) h.size, g.stable w w' (fun b hb => ho.here b (far e he b hb).1 (far e he b hb).2) g.here⟩

theorem o_callX {f : FuncId} {args : Array Operand} {ats : Array TypeId} {vs : List Value} {pre R : List Ent} {Pr : World → Prop} {π : Type} {val : π → Value} {post : π → List Ent} (hv : evs F args.toList = some vs) (hf : FnX P f vs pre Pr π val post) (hP : HasFn P f) (hH : H = pre ++ R) (hpr : ∀ w, HeapIs w0 H w → Pr w) (hn : Nat.blt d n = true)
    (h : ∀ p, SO r ds P n w0 ops Q rest ((d, val p) :: F) (post p ++ R)) :
    SO r ds P n w0 ops Q (⟨some d, .call { callee := .value (.func f), args := args, argTypes := ats }, ty, pos, after, none⟩ :: rest) F H := fun a w ha hw =>
  wpL_plain rfl (fun _ h => by cases h) fun K hK => by
    obtain ⟨fn, c, h1, h2, h3⟩ := hP
    have hpw := hpr w hw
    subst hH
    unfold Oper.wp
    rw [run_call ha hv h1 h2 h3]
    simp only [Oper.upon]
    refine (hf w hw.inner hpw).mono ?_
    rintro e w' ⟨p, rfl, hh⟩
    exact hK _ _ (h p _ _ (ha.put hn _) (hw.back hh))
/-- the same where the result is not kept -/
theorem o_callX' {f : FuncId} {args : Array Operand} {ats : Array TypeId} {vs : List Value} {pre R : List Ent} {Pr : World → Prop} {π : Type} {val : π → Value} {post : π → List Ent} (hv : evs F args.toList = some vs) (hf : FnX P f vs pre Pr π val post) (hP : HasFn P f) (hH : H = pre ++ R) (hpr : ∀ w, HeapIs w0 H w → Pr w)
    (h : ∀ p, SO r ds P n w0 ops Q rest F (post p ++ R)) :
    SO r ds P n w0 ops Q (⟨none, .call { callee := .value (.func f), args := args, argTypes := ats }, ty, pos, after, none⟩ :: rest) F H := fun a w ha hw =>
  wpL_plain rfl (fun _ h => by cases h) fun K hK => by
    obtain ⟨fn, c, h1, h2, h3⟩ := hP
    have hpw := hpr w hw
    subst hH
    unfold Oper.wp
    rw [run_call ha hv h1 h2 h3]
    simp only [Oper.upon]
    refine (hf w hw.inner hpw).mono ?_
    rintro e w' ⟨p, rfl, hh⟩
    exact hK _ _ (h p _ _ ha (hw.back hh))
theorem q_endX {fn : Func} {v : Value} {pre : List Ent} {π : Type} {val : π → Value} {post : π → List Ent} (p : π) (hr : ResT [] P n w0 F H fn v) (hv : v = val p) (hH : ∀ w, HeapIs w0 H w → HeapIs w0 (outer w0 pre :: post p) w) : SQ [] n w0 (bodyPost P fn (EndX w0 pre π val post)) .ret F H := fun a w ha hw =>
  bodyPost_ret (hr a w ha hw) (by simp [ha.defers]) ⟨p, by rw [hv], hH w hw⟩
theorem fnX {f : FuncId} {fn : Func} {c : Code} {args : List Value} {pre : List Ent} {Pr : World → Prop} {π : Type} {val : π → Value} {post : π → List Ent} {nt : Nat} {F0 : List (Nat × Value)} (hf : P.funcs[f]? = some fn) (hb : fn.body = some c) (hn : fn.ntmps = nt) (hle : Nat.ble args.length nt = true) (hF : F0 = (List.range args.length).zip args)
    (h : ∀ w0, Pr w0 → SC none [] P nt w0 (bodyPost P fn (EndX w0 pre π val post)) c F0 (outer w0 pre :: pre)) : FnX P f args pre Pr π val post := fun w hw hp => by
  refine calls_of_wp hf hb ?_
  have e : args.toArray.size = args.length := by simp
  have hle' : args.length ≤ nt := Nat.le_of_ble_eq_true hle
  have ho := ok_begin args (nt - args.length)
  rw [show args.length + (nt - args.length) = nt by omega, ← hF] at ho
  rw [hn, e]
  exact h w hp _ w ho hw
theorem rd_outer {i : Nat} {pre : List Ent} (hi : H[i]? = some (outer w0 pre)) (h : SlR T (outer w0 pre).S w0 a cap L) : ∀ w, HeapIs w0 H w → Rd T w a cap L := fun w hw => by
  have g := hw.at hi
  exact (SlR.agree (w := w0) (w' := w) (fun b hb => g.here b hb.1 hb.2) h).mono fun b hb => Nat.lt_of_lt_of_le hb.1 hw.size

/-! ### append within a slice -/
theorem run_appendIn {t tx e : TypeId} {d' : TypeDesc} {bytes : Nat} {w : World} {b : Option Addr} {cb m : Nat} {M : List α} (hu : P.underlying t = some (.slice e)) (hux : P.underlying tx = some d') (hd : ∀ k, d' ≠ .int k) (he : elemIs P e T.k bytes) (hone : ∀ v ∈ M.flatMap T.enc, one1 v = true)
    (h : SlO T S w a cap L) (hM : Rd T w b cb M) (hroom : L.length + M.length ≤ cap) (hsmall : L.length + M.length ≤ 140737488355328) (type : TypeId) :
    ∃ w', (Builtin.append_ #[t, tx] type #[.slice a L.length cap, .slice b M.length cb]).run P w = .ok (.slice a (L ++ M).length cap) w' ∧ Same w w' ∧ w'.heap.size = w.heap.size ∧
      (∀ c, c < w.heap.size → ¬ S c → w'.heap[c]? = w.heap[c]?) ∧ SlO T S w' a cap (L ++ M) := by
  obtain ⟨i, z, hi, hz, hsz, hby, hzc⟩ := he
  have hsize : sizeIs P e = some T.k := by simp [sizeIs, hi, hsz]
  have hnew := fun (w1 : World) (h1 : Rd T w1 b cb M) => run_firstCells (P := P) h1
  cases a with
  | none =>
    have hc0 : cap = 0 := h.2.2
    have hL : L = [] := List.length_eq_zero_iff.1 (by omega)
    have hM0 : M = [] := List.length_eq_zero_iff.1 (by omega)
    subst hL; subst hM0; subst hc0
    refine ⟨w, ?_, ⟨rfl, rfl, rfl⟩, rfl, fun _ _ _ => rfl, by simpa using h⟩
    have h1 := hnew w hM
    simp at h1
    simp [Builtin.append_, run_underlying hu, run_underlying hux, run_sizeOf hsize, Builtin.lenOf, h1]
  | some x =>
    obtain ⟨g0, g1, gs, gS, ⟨c, ty', gc, gl⟩, grow⟩ := h
    obtain ⟨bb, o, s⟩ := x
    simp only at gs gS gc gl grow
    subst gs
    have gl' : o + cap * T.k ≤ c.size := gl
    have hfl := flat_len M T.enc T.len
    have had : Addr.add ⟨bb, o, none⟩ (L.length * T.k) = ⟨bb, o + L.length * T.k, none⟩ := by unfold Addr.add; split <;> simp_all
    have hle : (L.length + M.length) * T.k ≤ cap * T.k := Nat.mul_le_mul_right _ hroom
    rw [Nat.add_mul] at hle
    obtain ⟨w', c', h1, h2, h3, h4, h5, h6, h7⟩ := run_storeCells (P := P) (b := bb) (o := o + L.length * T.k) (M.flatMap T.enc) 0 w c ty' gc hone (by rw [hfl]; omega)
    refine ⟨w', ?_, h5, by omega, fun k _ hk => h7 k (fun e => hk (e ▸ gS)), ?_⟩
    · have hn := hnew w hM
      simp [Builtin.append_, run_underlying hu, run_underlying hux, run_sizeOf hsize, Builtin.lenOf, hn, hroom, had, h1]
    · refine ⟨by simpa using hroom, by simp; omega, rfl, gS, ⟨c', ty', h2, by show o + cap * T.k ≤ c'.size; omega⟩, fun i hi j hj => ?_⟩
      have hcell : w'.cell? ⟨bb, o + i * T.k + j, none⟩ = c'[o + i * T.k + j]? := by simp [World.cell?, h2]
      rw [hcell, h4]
      simp only [Nat.add_zero, hfl]
      by_cases hiL : i < L.length
      · have : i * T.k + j < L.length * T.k := by
          calc i * T.k + j < i * T.k + T.k := by omega
            _ = (i + 1) * T.k := by rw [Nat.add_mul]; omega
            _ ≤ L.length * T.k := Nat.mul_le_mul_right _ hiL
        rw [if_neg (by omega), List.getElem_append_left hiL]
        have := grow i hiL j hj
        simpa [World.cell?, gc] using this
      · simp only [List.length_append] at hi
        have hiM : i - L.length < M.length := by omega
        have e1 : i * T.k = L.length * T.k + (i - L.length) * T.k := by rw [← Nat.add_mul]; congr 1; omega
        have e2 : (i - L.length) * T.k + j < M.length * T.k := by
          calc (i - L.length) * T.k + j < (i - L.length) * T.k + T.k := by omega
            _ = (i - L.length + 1) * T.k := by rw [Nat.add_mul]; omega
            _ ≤ M.length * T.k := Nat.mul_le_mul_right _ hiM
        rw [if_pos (by omega), List.getElem_append_right (by omega), show o + i * T.k + j - (o + L.length * T.k) = (i - L.length) * T.k + j by omega]
        exact flat_get T.enc T.len M (i - L.length) j hiM hj
/-- append(s[:m], x...) into s's own room -/
theorem o_appendIn {t tx e : TypeId} {d' : TypeDesc} {bytes i m : Nat} {b : Option Addr} {cb : Nat} {M : List α} (hx : ev F x = some (.slice a (L.take m).length cap)) (hy : ev F y = some (.slice b M.length cb)) (hi : H[i]? = some (own T S a cap L)) (hm : m ≤ L.length) (hM : ∀ w, HeapIs w0 H w → Rd T w b cb M)
    (hu : P.underlying t = some (.slice e)) (hux : P.underlying tx = some d') (hd : ∀ k, d' ≠ .int k) (he : elemIs P e T.k bytes) (hone : ∀ z : α, ∀ v ∈ T.enc z, one1 v = true) (hroom : m + M.length ≤ L.length) (hn : Nat.blt d n = true)
    (h : SO r ds P n w0 ops Q rest ((d, .slice a (L.take m ++ M).length cap) :: F) (H.set i (own T S a cap (L.take m ++ M)))) :
    SO r ds P n w0 ops Q (⟨some d, .call { callee := .builtin .append, args := #[x, y], argTypes := #[t, tx] }, ty, pos, after, none⟩ :: rest) F H := fun c w hc hw =>
  wpL_plain rfl (fun _ h => by cases h) fun K hK => by
    have g : SlO T S w a cap L := (hw.at hi).here
    have hle := g.1
    obtain ⟨w', h1, h2, h3, h4, h5⟩ := run_appendIn (P := P) (m := m) hu hux hd he (fun v hv => by obtain ⟨z, _, hz⟩ := List.mem_flatMap.1 hv; exact hone z v hz) (g.shrink hm (by omega) (Nat.le_refl _)) (hM w hw) (by simp; omega) (by have := g.2.1; simp; omega) ty
    have hrun : (execOp c.eval ⟨some d, .call { callee := .builtin .append, args := #[x, y], argTypes := #[t, tx] }, ty, pos, after, none⟩).run P w = .ok (.value (.slice a (L.take m ++ M).length cap)) w' := by
      simp only [execOp, resolve, run_bind, run_pure, invoke, builtin, List.map_toArray, List.map_cons, List.map_nil, hc.eval hx, hc.eval hy]
      rw [h1]
    unfold Oper.wp
    rw [hrun]
    exact hK _ _ (h _ _ (hc.put hn _) (hw.change hi h2 (by omega) (fun b hb => .inl hb) h4 (fun w1 w2 ha hA => SlO.agree (T := T) (S := S) (a := a) (cap := cap) (L := L.take m ++ M) ha hA) h5))
/-- clear(s[len(s):old]): nothing that is read is changed -/
theorem o_clearTail {t e : TypeId} {i m k : Nat} {zs : List Value} {ats : Array TypeId} (hx : ev F x = some (.slice (sa a cap L.length T.k) m k)) (hi : H[i]? = some (own T S a cap L)) (hat : ats[0]? = some t) (hu : P.underlying t = some (.slice e)) (hz : zeroOf P e = some zs) (hzl : zs.length = T.k) (hz1 : zs.all one1 = true) (hm : L.length + m ≤ cap)
    (h : SO r ds P n w0 ops Q rest F H) : SO r ds P n w0 ops Q (⟨none, .call { callee := .builtin .clear, args := #[x], argTypes := ats }, ty, pos, after, none⟩ :: rest) F H := fun c w hc hw =>
  wpL_plain rfl (fun _ h => by cases h) fun K hK => by
    have g : SlO T S w a cap L := (hw.at hi).here
    have key : ∃ w', (Builtin.clear_ ats ty #[.slice (sa a cap L.length T.k) m k]).run P w = .ok (.tuple #[]) w' ∧ HeapIs w0 H w' := by
      by_cases h0 : m = 0
      · subst h0
        refine ⟨w, ?_, hw⟩
        cases hsa : sa a cap L.length T.k <;> simp [Builtin.clear_, hat, run_underlying hu]
      · cases a with
        | none => have : cap = 0 := g.2.2; omega
        | some x =>
          obtain ⟨g0, g1, gs, gS, ⟨c', ty', gc, gl⟩, grow⟩ := g
          obtain ⟨bb, o, s⟩ := x
          simp only at gs gS gc gl grow
          subst gs
          have had : Addr.add ⟨bb, o, none⟩ (L.length * T.k) = ⟨bb, o + L.length * T.k, none⟩ := by unfold Addr.add; split <;> simp_all
          have hsa : sa (some ⟨bb, o, none⟩) cap L.length T.k = some ⟨bb, o + L.length * T.k, none⟩ := by
            unfold sa; rw [if_neg (by omega), Option.map_some, had]
          have hle : (L.length + m) * T.k ≤ cap * T.k := Nat.mul_le_mul_right _ hm
          rw [Nat.add_mul] at hle
          obtain ⟨ti, hti, hz2⟩ := Option.map_eq_some_iff.1 hz
          obtain ⟨ti', hti', hz3⟩ := Option.bind_eq_some_iff.1 hti
          have hzr : (zeroValue e).run P w = .ok ti w := by simp [zeroValue, run_typeInfo hti', hz3]
          have hzs : ti.cells.size = T.k := by rw [← hzl, ← hz2]; simp
          have hzcl : (Builtin.zeroCells ti.cells m).toList.length = m * T.k := by simp [Builtin.zeroCells, hzs]
          have hall : ∀ v ∈ (Builtin.zeroCells ti.cells m).toList, one1 v = true := fun v hv => by
            simp only [Builtin.zeroCells, Array.toList_map, List.mem_map, Array.mem_toList_iff, Array.mem_range] at hv
            obtain ⟨q, hq, rfl⟩ := hv
            have hk : 0 < T.k := by
              rcases Nat.eq_zero_or_pos T.k with h | h
              · rw [hzs, h] at hq; simp at hq
              · exact h
            have hlt : q % ti.cells.size < ti.cells.size := Nat.mod_lt _ (by omega)
            rw [getElem!_pos ti.cells _ hlt]
            refine List.all_eq_true.1 hz1 _ ?_
            rw [← hz2]; simp
          obtain ⟨w', c2, h1, h2, h3, h4, h5, h6, h7⟩ := run_storeCells (P := P) (b := bb) (o := o + L.length * T.k) (Builtin.zeroCells ti.cells m).toList 0 w c' ty' gc hall (by rw [hzcl]; have gl2 : o + cap * T.k ≤ c'.size := gl; omega)
          refine ⟨w', ?_, ?_⟩
          · rw [hsa]
            obtain ⟨m', rfl⟩ : ∃ m', m = m' + 1 := ⟨m - 1, by omega⟩
            simp [Builtin.clear_, hat, run_underlying hu, hzr, h1]
          · have hset : H.set i (own T S (some ⟨bb, o, none⟩) cap L) = H := by
              obtain ⟨hlt, he⟩ := List.getElem?_eq_some_iff.1 hi
              rw [← he]; simp
            rw [← hset]
            refine hw.change hi h5 (by omega) (fun b hb => .inl hb) (fun q _ hq => h7 q (fun e => hq (e ▸ gS))) (fun w1 w2 ha hA => SlO.agree (T := T) (S := S) (a := some ⟨bb, o, none⟩) (cap := cap) (L := L) ha hA) ?_
            refine ⟨g0, g1, rfl, gS, ⟨c2, ty', h2, by show o + cap * T.k ≤ c2.size; rw [h3]; exact gl⟩, fun q hq j hj => ?_⟩
            have hcell : w'.cell? ⟨bb, o + q * T.k + j, none⟩ = c2[o + q * T.k + j]? := by simp [World.cell?, h2]
            have : q * T.k + j < L.length * T.k := by
              calc q * T.k + j < q * T.k + T.k := by omega
                _ = (q + 1) * T.k := by rw [Nat.add_mul]; omega
                _ ≤ L.length * T.k := Nat.mul_le_mul_right _ hq
            rw [hcell, h4, if_neg (by omega)]
            have := grow q hq j hj
            simpa [World.cell?, gc] using this
    obtain ⟨w', h1, h2⟩ := key
    have hrun : (execOp c.eval ⟨none, .call { callee := .builtin .clear, args := #[x], argTypes := ats }, ty, pos, after, none⟩).run P w = .ok (.value (.tuple #[])) w' := by
      simp only [execOp, resolve, run_bind, run_pure, invoke, builtin, List.map_toArray, List.map_cons, List.map_nil, hc.eval hx]
      rw [h1]
    unfold Oper.wp
    rw [hrun]
    exact hK _ _ (h _ _ hc h2)
end
end Go.Sx

/- Owned slices of which only the length is known; other names for what is known. -/
namespace Go.Sx
open Go.RowKit
section
variable {α : Type} {P : Program} {n : Nat} {w0 : World} {r : Option Nat} {ds : List Deferred} {Q : Exit → Act → World → Prop} {F F' : List (Nat × Value)} {H H' : List Ent} {ops : Array Oper}
variable {ty : TypeId} {pos : String} {after : Array Edge} {guard : Option (Nat × Bool)} {dst : Option Tmp} {rest : List Oper} {d : Nat} {x y : Operand}
variable {T : Ty α} {a : Option Addr} {cap : Nat} {L : List α} {S : Nat → Prop}
def ownE (T : Ty α) (S : Nat → Prop) (a : Option Addr) (cap : Nat) (m : Nat) : Ent := ⟨S, fun w => ∃ L : List α, L.length = m ∧ SlO T S w a cap L⟩
theorem HeapIs.toE {w : World} {i m : Nat} (hi : H[i]? = some (own T S a cap L)) (hm : L.length = m) (hw : HeapIs w0 H w) : HeapIs w0 (H.set i (ownE T S a cap m)) w := by
  have g := hw.at hi
  exact hw.change hi ⟨rfl, rfl, rfl⟩ (Nat.le_refl _) (fun b hb => .inl hb) (fun _ _ _ => rfl) (fun w1 w2 ha ⟨L', h1, h2⟩ => ⟨L', h1, SlO.agree ha h2⟩) ⟨L, hm, g.here⟩
theorem p_indexAddrE {t e : TypeId} {k : IntKind} {i : Int} {j m : Nat} (hx : ev F x = some (.slice a m cap)) (hy : ev F y = some (.int k i)) (hj : H[j]? = some (ownE T S a cap m)) (hu : P.underlying t = some (.slice e)) (hs : sizeIs P e = some T.k)
    (h0 : 0 ≤ i) (h1 : i < (m : Int)) : Pure ds P n w0 ⟨dst, .indexAddr t x y, ty, pos, after, guard⟩ F H (.pointer (some (ea a (i.toNat * T.k)))) := fun b w hb hw => by
  obtain ⟨L', h2, h3⟩ := (hw.at hj).here
  obtain ⟨z, rfl, hz⟩ := (SlO.toR h3).nonnil (by omega)
  simp [execOp, hb.eval hx, hb.eval hy, Instr.indexAt, asIntOf, run_underlying hu, run_sizeOf hs, h0, h1, ea]
/-- s[len(s):h], within the capacity -/
theorem p_sliceTail {t e : TypeId} {z : Operand} {k k2 : IntKind} {h : Int} {i m : Nat} (hx : ev F x = some (.slice a L.length cap)) (hy : ev F y = some (.int k (L.length : Int))) (hz : ev F z = some (.int k2 h)) (hi : H[i]? = some (own T S a cap L)) (hu : P.underlying t = some (.slice e)) (hs : sizeIs P e = some T.k) (hc : L.length + m ≤ cap ∧ h = (L.length : Int) + m) :
    Pure ds P n w0 ⟨dst, .slice t x (some y) (some z) none, ty, pos, after, guard⟩ F H (.slice (sa a cap L.length T.k) m (cap - L.length)) := by
  have hh : h = ((L.length + m : Nat) : Int) := by omega
  exact p_slice (l := L.length) (hi := L.length + m) (m := cap) (lv := some (.int k L.length)) (hv := some (.int k2 h)) (mv := none) hx (by simp [hy]) (by simp [hz]) rfl hu hs (.inr ⟨k, rfl⟩) (.inr ⟨k2, by rw [← hh]⟩) (.inl ⟨rfl, rfl⟩) (fun h => by cases h) (by omega) (by omega) (Nat.le_refl _) (by omega)
theorem c_know {φ : Prop} {c : Code} (hp : ∀ w, HeapIs w0 H w → φ) (h : φ → SC r ds P n w0 Q c F H) : SC r ds P n w0 Q c F H := fun a w ha hw => h (hp w hw) a w ha hw
theorem o_know {φ : Prop} {l : List Oper} (hp : ∀ w, HeapIs w0 H w → φ) (h : φ → SO r ds P n w0 ops Q l F H) : SO r ds P n w0 ops Q l F H := fun a w ha hw => h (hp w hw) a w ha hw
theorem q_know {φ : Prop} {e : Exit} (hp : ∀ w, HeapIs w0 H w → φ) (h : φ → SQ ds n w0 Q e F H) : SQ ds n w0 Q e F H := fun a w ha hw => h (hp w hw) a w ha hw
theorem own_len {w : World} {i : Nat} (hw : HeapIs w0 H w) (hi : H[i]? = some (own T S a cap L)) : L.length ≤ cap ∧ L.length ≤ 140737488355328 := by
  have g : SlO T S w a cap L := (hw.at hi).here
  exact ⟨g.1, g.2.1⟩
/-- what lies in one entry lies outside of others -/
theorem rdX {i : Nat} {e : Ent} {pre : List Ent} {js : List Nat} (hi : H[i]? = some e) (hj : i ∉ js) (hp : js.map (H[·]?) = pre.map some) (h : ∀ w, e.A w → SlR T e.S w a cap L) : ∀ w, HeapIs w0 H w → SlR T (outer w pre).S w a cap L := fun w hw => by
  have g := hw.at hi
  refine (h w g.here).mono fun b hb => ⟨g.bound b hb, fun ⟨f, hf, hfb⟩ => ?_⟩
  obtain ⟨k, hk, rfl⟩ := List.mem_iff_getElem.1 hf
  have hlen : js.length = pre.length := by simpa using congrArg List.length hp
  have h3 := congrArg (·[k]?) hp
  simp only [List.getElem?_map, List.getElem?_eq_getElem hk, List.getElem?_eq_getElem (show k < js.length by omega), Option.map_some, Option.some.injEq] at h3
  obtain ⟨q1, q2⟩ := List.getElem?_eq_some_iff.1 hi
  obtain ⟨r1, r2⟩ := List.getElem?_eq_some_iff.1 h3
  have hne : i ≠ js[k] := fun e => hj (e ▸ List.getElem_mem _)
  have hap := List.pairwise_iff_getElem.1 hw.apart
  rcases Nat.lt_or_gt_of_ne hne with hl | hl
  · exact hap _ _ q1 r1 hl b (by rw [q2]; exact hb) (by rw [r2]; exact hfb)
  · exact hap _ _ r1 q1 hl b (by rw [r2]; exact hfb) (by rw [q2]; exact hb)
theorem slR_base {w : World} (h : Rd T w0 a cap L) (hA : (base w0).A w) : SlR T (base w0).S w a cap L := SlR.agree (fun b hb => hA b hb) h
theorem slR_outer {w : World} {pre : List Ent} (h : SlR T (outer w0 pre).S w0 a cap L) (hA : (outer w0 pre).A w) : SlR T (outer w0 pre).S w a cap L := SlR.agree (fun b hb => hA b hb.1 hb.2) h
/-- A slice that lies in S, or another one (φ). -/
def loose (T : Ty α) (φ : Prop) (S : Nat → Prop) (a : Option Addr) (cap : Nat) (L : List α) : Ent := ⟨S, fun w => SlR T S w a cap L ∨ φ⟩
theorem loose_st {φ : Prop} {w1 w2 : World} (ha : Agree S w1 w2) (h : SlR T S w1 a cap L ∨ φ) : SlR T S w2 a cap L ∨ φ := h.imp (fun h => SlR.agree ha h) id
theorem HeapIs.push0 {w : World} {A : World → Prop} (hw : HeapIs w0 H w) (hst : ∀ w1 w2, Agree (fun _ => False) w1 w2 → A w1 → A w2) (h : A w) : HeapIs w0 (⟨fun _ => False, A⟩ :: H) w :=
  ⟨hw.same, hw.size, fun e he => by
    rcases List.mem_cons.1 he with rfl | he
    · exact ⟨hst, fun b hb => hb.elim, h⟩
    · exact hw.good e he, List.pairwise_cons.2 ⟨fun e _ b hb => hb.elim, hw.apart⟩⟩
theorem HeapIs.looseOf {φ : Prop} {w : World} (h : φ) (hw : HeapIs w0 H w) : HeapIs w0 (loose T φ (fun _ => False) a cap L :: H) w := hw.push0 (fun _ _ ha h => loose_st ha h) (.inr h)
theorem HeapIs.looseNil {φ : Prop} {w : World} (T : Ty α) (hw : HeapIs w0 H w) : HeapIs w0 (loose T φ (fun _ => False) none 0 ([] : List α) :: H) w := hw.push0 (fun _ _ ha h => loose_st ha h) (.inl (SlR.nil _ _ _))
theorem HeapIs.toLoose {φ : Prop} {w : World} {i : Nat} (hi : H[i]? = some (own T S a cap L)) (hw : HeapIs w0 H w) : HeapIs w0 (H.set i (loose T φ S a cap L)) w := by
  have g := hw.at hi
  exact hw.change hi ⟨rfl, rfl, rfl⟩ (Nat.le_refl _) (fun b hb => .inl hb) (fun _ _ _ => rfl) (fun w1 w2 ha h => loose_st ha h) (.inl (SlO.toR g.here))
theorem HeapIs.entLoose {φ : Prop} {w : World} {i : Nat} {A : World → Prop} (hi : H[i]? = some ⟨S, A⟩) (h : ∀ w, A w → SlR T S w a cap L) (hw : HeapIs w0 H w) : HeapIs w0 (H.set i (loose T φ S a cap L)) w := by
  have g := hw.at hi
  exact hw.change hi ⟨rfl, rfl, rfl⟩ (Nat.le_refl _) (fun b hb => .inl hb) (fun _ _ _ => rfl) (fun w1 w2 ha h => loose_st ha h) (.inl (h w g.here))
theorem rd_loose {φ : Prop} {i : Nat} (hi : H[i]? = some (loose T φ S a cap L)) (h : φ → ∀ w, HeapIs w0 H w → Rd T w a cap L) : ∀ w, HeapIs w0 H w → Rd T w a cap L := fun w hw => by
  have g := hw.at hi
  rcases g.here with h1 | h1
  · exact h1.mono g.bound
  · exact h h1 w hw
theorem rdX_loose {φ : Prop} {i : Nat} {pre : List Ent} {js : List Nat} (hi : H[i]? = some (loose T φ S a cap L)) (hj : i ∉ js) (hp : js.map (H[·]?) = pre.map some) (h : φ → ∀ w, HeapIs w0 H w → SlR T (outer w pre).S w a cap L) : ∀ w, HeapIs w0 H w → SlR T (outer w pre).S w a cap L := fun w hw => by
  have g := hw.at hi
  rcases g.here with h1 | h1
  · have h2 : HeapIs w0 (H.set i ⟨S, fun w => SlR T S w a cap L⟩) w := hw.change hi ⟨rfl, rfl, rfl⟩ (Nat.le_refl _) (fun b hb => .inl hb) (fun _ _ _ => rfl) (fun w1 w2 ha h => SlR.agree ha h) h1
    refine rdX (i := i) (js := js) (e := ⟨S, fun w => SlR T S w a cap L⟩) ?_ hj ?_ (fun _ h => h) w h2
    · obtain ⟨q1, _⟩ := List.getElem?_eq_some_iff.1 hi
      simp [q1]
    · rw [← hp]
      refine List.map_congr_left fun k hk => ?_
      have hne : i ≠ k := fun e => hj (by rw [e]; exact hk)
      rw [List.getElem?_set_ne hne]
  · exact h h1 w hw
theorem c_heap {c : Code} (hH : ∀ w, HeapIs w0 H w → HeapIs w0 H' w) (h : SC r ds P n w0 Q c F H') : SC r ds P n w0 Q c F H := fun a w ha hw => h a w ha (hH w hw)
theorem o_heap {l : List Oper} (hH : ∀ w, HeapIs w0 H w → HeapIs w0 H' w) (h : SO r ds P n w0 ops Q l F H') : SO r ds P n w0 ops Q l F H := fun a w ha hw => h a w ha (hH w hw)
theorem q_heap {e : Exit} (hH : ∀ w, HeapIs w0 H w → HeapIs w0 H' w) (h : SQ ds n w0 Q e F H') : SQ ds n w0 Q e F H := fun a w ha hw => h a w ha (hH w hw)
theorem rt0 {fn : Func} (hr : fn.results = #[]) : ResT ds P n w0 F H fn (.tuple #[]) := fun a w _ _ => by
  simp [results, hr]
theorem q_cast {e : Exit} (hF : Sub F F') (hH : H = H') (h : SQ ds n w0 Q e F' H') : SQ ds n w0 Q e F H := fun a w ha hw => h a w (ha.sub hF) (hH ▸ hw)
theorem o_cast {l : List Oper} (hF : Sub F F') (hH : H = H') (h : SO r ds P n w0 ops Q l F' H') : SO r ds P n w0 ops Q l F H := fun a w ha hw => h a w (ha.sub hF) (hH ▸ hw)
theorem c_cast {c : Code} (hF : Sub F F') (hH : H = H') (h : SC r ds P n w0 Q c F' H') : SC r ds P n w0 Q c F H := fun a w ha hw => h a w (ha.sub hF) (hH ▸ hw)
end
end Go.Sx

/- Structs that hold slices, as they come in. -/
namespace Go.Sx
open Go.RowKit Go.ChangeShapes Go.WideShapes Go.ChangeAt
theorem p_neBool {P : Program} {n : Nat} {w0 : World} {ds : List Deferred} {F : List (Nat × Value)} {H : List Ent} {ty : TypeId} {pos : String} {after : Array Edge} {guard : Option (Nat × Bool)} {dst : Option Tmp} {x y : Operand} {tx tY : TypeId} {b c : Bool} (hx : ev F x = some (.bool b)) (hy : ev F y = some (.bool c)) (hu : P.underlying tx = some .bool) : Pure ds P n w0 ⟨dst, .binOp .neq tx x y tY, ty, pos, after, guard⟩ F H (.bool (b != c)) := fun a w ha _ => by
  have h : (Op.equal tx (.bool b) (.bool c)).run P w = .ok (b == c) w := by
    show ((Go.underlying tx).bind _).run P w = _
    exact (run_bind (P := P) (Go.underlying tx) _ w).trans (by rw [run_underlying hu]; rfl)
  simp [execOp, ha.eval hx, ha.eval hy, eqGuard, binOp, h]; cases b <;> cases c <;> rfl
section
variable {α H : Type} {P : Program} {enc : TypeId × Value → H} {w : World} {T : Ty α} {WF : α → Prop}
theorem open_rd_cs {t e : TypeId} {fuel : Nat} {cs : List Value} {d : DataW H} {ps : List MemPlace} (hu : P.underlying t = some (.slice e)) (hT : ElTy P e T WF) (hby : 0 < P.bytesOf e) (hf : DataW.trod enc P w 0 (fun _ => true) true fuel t cs = some (d, ps))
    (hsz : ∀ m ∈ d.weights P t, m ≤ reachBytes) : ∃ (a : Option Addr) (cap : Nat) (L : List α), cs = [.slice a L.length cap] ∧ Rd T w a cap L ∧ ∀ z ∈ L, WF z := by
  have h1 : ∃ a len cap, cs = [.slice a len cap] := by
    rcases DataW.trod_slice hu hf with ⟨h0, _⟩ | ⟨x, len', cap', elems, rest, n, _, hcs, _⟩
    · exact ⟨_, _, _, h0⟩
    · exact ⟨_, _, _, hcs⟩
  obtain ⟨a, len, cap, rfl⟩ := h1
  obtain ⟨L, rfl, h2, h3⟩ := open_rd_of hu hT hby hf hsz
  exact ⟨a, cap, L, rfl, h2, h3⟩
theorem rd_small {t e : TypeId} {a : Option Addr} {len cap b : Nat} {d : DataW H} {ps : List MemPlace} (hu : P.underlying t = some (.slice e)) (hb : P.bytesOf e = b) (h : DataW.Trod enc P w 0 (fun _ => true) true t (.slice a len cap) d ps) (hsz : ∀ m ∈ d.weights P t, m ≤ reachBytes) : len * b ≤ 140737488351232 := by
  obtain ⟨fuel, hf⟩ := h
  subst hb
  rcases DataW.trod_slice hu hf with ⟨h0, _⟩ | ⟨x, len', cap', elems, rest, n, _, hcs, hx, hb, hl, hm, hlen, hel, hsp, _⟩
  · simp only [Value.cells, List.cons.injEq, Value.slice.injEq, and_true] at h0
    obtain ⟨_, rfl, _⟩ := h0; simp
  · simp only [Value.cells, List.cons.injEq, Value.slice.injEq, and_true] at hcs
    obtain ⟨_, rfl, rfl⟩ := hcs
    simp only [Prod.mk.injEq] at hx
    obtain ⟨rfl, _⟩ := hx
    have hreach : (elems.length + rest.length) * P.bytesOf e ≤ reachBytes := hsz _ (by simp [DataW.weights, hu])
    have h1 : len * P.bytesOf e ≤ (elems.length + rest.length) * P.bytesOf e := Nat.mul_le_mul_right _ (by omega)
    have : reachBytes = 140737488351232 := by decide
    omega
theorem weights_each {ts : List TypeId} {ds : List (DataW H)} {j : Nat} {t : TypeId} {d : DataW H} (h1 : ts[j]? = some t) (h2 : ds[j]? = some d) : ∀ m ∈ d.weights P t, m ∈ DataW.weightsEach P ts ds := by
  induction ts generalizing ds j with
  | nil => simp at h1
  | cons a ts ih =>
    cases ds with
    | nil => simp at h2
    | cons b ds =>
      intro m hm
      rw [DataW.weightsEach]
      cases j with
      | zero => simp at h1 h2; subst h1; subst h2; exact List.mem_append_left _ hm
      | succ j => exact List.mem_append_right _ (ih (by simpa using h1) (by simpa using h2) m hm)
end
end Go.Sx

/- More rules: quotients within bounds. -/
namespace Go.Sx
open Go.RowKit
section
variable {P : Program} {n : Nat} {w0 : World} {r : Option Nat} {ds : List Deferred} {Q : Exit → Act → World → Prop} {F F' : List (Nat × Value)} {H H' : List Ent} {ops : Array Oper}
variable {ty : TypeId} {pos : String} {after : Array Edge} {guard : Option (Nat × Bool)} {dst : Option Tmp} {rest : List Oper} {d : Nat} {x y : Operand} {tx tY : TypeId}
theorem p_quob {p q : Int} (hx : ev F x = some (.int .i64 p)) (hy : ev F y = some (.int .i64 q)) (h0 : q ≠ 0) (hb : -9223372036854775808 ≤ p.tdiv q ∧ p.tdiv q ≤ 9223372036854775807) : Pure ds P n w0 ⟨dst, .binOp .quo tx x y tY, ty, pos, after, guard⟩ F H (.int .i64 (p.tdiv q)) := by
  have := p_quo (P := P) (n := n) (w0 := w0) (ds := ds) (dst := dst) (tx := tx) (tY := tY) (ty := ty) (pos := pos) (after := after) (guard := guard) (H := H) hx hy h0
  rwa [wrap_i64 hb] at this
end
end Go.Sx

/- More rules: copy, append of zeros, cap, whether two slices overlap (what slices.Insert asks). -/
namespace Go.Sx
open Go.RowKit
section
variable {α : Type} {P : Program} {n : Nat} {w0 : World} {r : Option Nat} {ds : List Deferred} {Q : Exit → Act → World → Prop} {F F' : List (Nat × Value)} {H H' : List Ent} {ops : Array Oper}
variable {ty : TypeId} {pos : String} {after : Array Edge} {guard : Option (Nat × Bool)} {dst : Option Tmp} {rest : List Oper} {d : Nat} {x y : Operand}
variable {T : Ty α} {a : Option Addr} {cap : Nat} {L : List α} {S : Nat → Prop}
/-- s[:h], perhaps beyond len(s) -/
theorem p_slice0 {t e : TypeId} {len hi k : Nat} {hv : Int} (hx : ev F x = some (.slice a len cap)) (hy : ev F y = some (.int .i64 hv)) (hu : P.underlying t = some (.slice e)) (hs : sizeIs P e = some k) (h1 : hv = (hi : Int)) (h2 : hi ≤ cap) :
    Pure ds P n w0 ⟨dst, .slice t x none (some y) none, ty, pos, after, guard⟩ F H (.slice a hi cap) := fun b' w' hb' hw' => by
  subst h1
  have := p_slice (P := P) (n := n) (w0 := w0) (ds := ds) (H := H) (dst := dst) (ty := ty) (pos := pos) (after := after) (guard := guard) (l := 0) (hi := hi) (m := cap) (lv := none) (hv := some (.int .i64 (hi : Int))) (mv := none) (lo := none) (h_ := some y) (mx := none) (k' := hi) hx rfl (by simp [hy]) rfl hu hs (.inl ⟨rfl, rfl⟩) (.inr ⟨.i64, rfl⟩) (.inl ⟨rfl, rfl⟩) (fun h => by cases h) (Nat.zero_le _) h2 (Nat.le_refl _) (by simp)
  rw [sa_zero] at this
  exact this b' w' hb' hw'
/-- s[l:], where only the length of s is known -/
theorem p_sliceLE {t e : TypeId} {k : IntKind} {l : Int} {j m : Nat} (hx : ev F x = some (.slice a m cap)) (hy : ev F y = some (.int k l)) (hj : H[j]? = some (ownE T S a cap m)) (hu : P.underlying t = some (.slice e)) (hs : sizeIs P e = some T.k) (h0 : 0 ≤ l) (h1 : l ≤ (m : Int)) :
    Pure ds P n w0 ⟨dst, .slice t x (some y) none none, ty, pos, after, guard⟩ F H (.slice (sa a cap l.toNat T.k) (m - l.toNat) (cap - l.toNat)) := fun b' w' hb' hw' => by
  obtain ⟨L', h2, h3⟩ := (hw'.at hj).here
  have hc : m ≤ cap := by have := h3.1; omega
  have hh : l = (l.toNat : Int) := by omega
  exact p_slice (P := P) (n := n) (w0 := w0) (ds := ds) (H := H) (l := l.toNat) (hi := m) (m := cap) (lv := some (.int k l)) (hv := none) (mv := none) hx (by simp [hy]) rfl rfl hu hs (.inr ⟨k, by rw [← hh]⟩) (.inl ⟨rfl, rfl⟩) (.inl ⟨rfl, rfl⟩) (fun _ => rfl) (by omega) hc (Nat.le_refl _) rfl b' w' hb' hw'
/-- s[i], the elements of s having been changed -/
theorem p_indexAddrS {t e : TypeId} {k : IntKind} {i : Int} {j m : Nat} {L' : List α} (hx : ev F x = some (.slice a m cap)) (hy : ev F y = some (.int k i)) (hj : H[j]? = some (own T S a cap L')) (hm : L'.length = m) (hu : P.underlying t = some (.slice e)) (hs : sizeIs P e = some T.k)
    (h0 : 0 ≤ i) (h1 : i < (m : Int)) : Pure ds P n w0 ⟨dst, .indexAddr t x y, ty, pos, after, guard⟩ F H (.pointer (some (ea a (i.toNat * T.k)))) := fun b w hb hw => by
  have h3 : SlO T S w a cap L' := (hw.at hj).here
  obtain ⟨z, rfl, hz⟩ := (SlO.toR h3).nonnil (by omega)
  simp [execOp, hb.eval hx, hb.eval hy, Instr.indexAt, asIntOf, run_underlying hu, run_sizeOf hs, h0, h1, ea]
theorem p_cap_slice {t e : TypeId} {len : Nat} {ats : Array TypeId} (hx : ev F x = some (.slice a len cap)) (hat : ats[0]? = some t) (hu : P.underlying t = some (.slice e)) : Pure ds P n w0 ⟨dst, .call { callee := .builtin .cap, args := #[x], argTypes := ats }, ty, pos, after, guard⟩ F H (.int .i64 (cap : Int)) := fun b w hb _ => by
  simp [execOp, resolve, invoke, builtin, Builtin.cap_, hb.eval hx, hat, run_underlying hu, goInt]
/-- Elements are written from the place lo on. -/
theorem HeapIs.putAt {w : World} {i lo : Nat} {M : List α} (h : HeapIs w0 H w) (hi : H[i]? = some (own T S a cap L)) (hc0 : 0 < cap) (hlo : lo ≤ L.length) (hcap : lo + M.length ≤ cap) (hsm : lo + M.length ≤ 140737488355328) (hone : ∀ v ∈ M.flatMap T.enc, one1 v = true) :
    ∃ x w', a = some x ∧ (storeCells (x.add (lo * T.k)) (M.flatMap T.enc) 0).run P w = .ok () w' ∧ HeapIs w0 (H.set i (own T S a cap (L.take lo ++ M ++ L.drop (lo + M.length)))) w' := by
  have g : SlO T S w a cap L := (h.at hi).here
  obtain ⟨g1, g2, g3⟩ := g
  cases a with
  | none => have : cap = 0 := g3; omega
  | some p =>
    obtain ⟨gs, gS, ⟨c, ty, gh, gl⟩, gr⟩ := g3
    obtain ⟨b, o, s⟩ := p
    simp only at gs gS gh gl gr
    subst gs
    have had : Addr.add ⟨b, o, none⟩ (lo * T.k) = ⟨b, o + lo * T.k, none⟩ := by unfold Addr.add; split <;> simp_all
    have hfl := flat_len M T.enc T.len
    have hb1 : lo * T.k + M.length * T.k ≤ cap * T.k := by rw [← Nat.add_mul]; exact Nat.mul_le_mul_right _ hcap
    have gl' : o + cap * T.k ≤ c.size := gl
    obtain ⟨w', c', h1, h2, h3, h4, h5, h6, h7⟩ := run_storeCells (P := P) (b := b) (o := o + lo * T.k) (M.flatMap T.enc) 0 w c ty gh hone (by rw [hfl]; omega)
    refine ⟨⟨b, o, none⟩, w', rfl, by rw [had]; exact h1, h.change hi h5 (by omega) (fun b hb => .inl hb) (fun k _ hk => h7 k (fun e => hk (e ▸ gS))) (fun w1 w2 ha hA => SlO.agree (T := T) (S := S) (a := some ⟨b, o, none⟩) (cap := cap) (L := L.take lo ++ M ++ L.drop (lo + M.length)) ha hA) ?_⟩
    have hlen : (L.take lo ++ M ++ L.drop (lo + M.length)).length ≤ cap ∧ (L.take lo ++ M ++ L.drop (lo + M.length)).length ≤ 140737488355328 := by
      simp only [List.length_append, List.length_take, List.length_drop]; omega
    refine ⟨hlen.1, hlen.2, rfl, gS, ⟨c', ty, h2, by show o + cap * T.k ≤ c'.size; omega⟩, fun m hm q hq => ?_⟩
    have hcell : w'.cell? ⟨b, o + m * T.k + q, none⟩ = c'[o + m * T.k + q]? := by simp [World.cell?, h2]
    rw [hcell, h4]
    simp only [Nat.add_zero, hfl]
    have hold : ∀ (m' : Nat) (hm' : m' < L.length), c[o + m' * T.k + q]? = (T.enc L[m'])[q]? := fun m' hm' => by
      have := gr m' hm' q hq
      simpa [World.cell?, gh] using this
    have hm2 : m < (L.take lo).length + M.length + (L.drop (lo + M.length)).length := by simpa [Nat.add_assoc] using hm
    have htl : (L.take lo).length = lo := by simp; omega
    rcases Nat.lt_or_ge m lo with hlt | hge
    · have : m * T.k + T.k ≤ lo * T.k := by
        calc m * T.k + T.k = (m + 1) * T.k := by rw [Nat.add_mul]; omega
          _ ≤ lo * T.k := Nat.mul_le_mul_right _ hlt
      rw [if_neg (by omega), hold m (by omega)]
      rw [List.getElem_append_left (by simp; omega), List.getElem_append_left (by omega), List.getElem_take]
    · rcases Nat.lt_or_ge m (lo + M.length) with hlt2 | hge2
      · have e1 : m * T.k = lo * T.k + (m - lo) * T.k := by rw [← Nat.add_mul]; congr 1; omega
        have e2 : (m - lo) * T.k + q < M.length * T.k := by
          calc (m - lo) * T.k + q < (m - lo) * T.k + T.k := by omega
            _ = (m - lo + 1) * T.k := by rw [Nat.add_mul]; omega
            _ ≤ M.length * T.k := Nat.mul_le_mul_right _ (by omega)
        rw [if_pos (by omega), show o + m * T.k + q - (o + lo * T.k) = (m - lo) * T.k + q by omega, flat_get T.enc T.len M (m - lo) q (by omega) hq]
        rw [List.getElem_append_left (by simp; omega), List.getElem_append_right (by omega)]
        simp only [htl]
      · have e1 : (lo + M.length) * T.k ≤ m * T.k := Nat.mul_le_mul_right _ hge2
        rw [Nat.add_mul] at e1
        simp only [List.length_drop, htl] at hm2
        rw [if_neg (by omega), hold m (by omega)]
        rw [List.getElem_append_right (by simp; omega), List.getElem_drop]
        have e3 : (L.take lo ++ M).length = lo + M.length := by rw [List.length_append, htl]
        have e4 : lo + M.length + (m - (L.take lo ++ M).length) = m := by rw [e3]; omega
        simp only [e4]
theorem firstCells_len {k m : Nat} {b : Option Addr} {l1 c1 l2 c2 : Nat} : Builtin.firstCells k m (.slice b l1 c1) = Builtin.firstCells k m (.slice b l2 c2) := by cases b <;> rfl
/-- copy(s[lo:], x): m elements come -/
theorem o_copy {t tx e : TypeId} {i lo dl dc sl cb m : Nat} {b : Option Addr} {cM : Nat} {M : List α} (hx : ev F x = some (.slice (sa a cap lo T.k) dl dc)) (hy : ev F y = some (.slice b sl cb)) (hi : H[i]? = some (own T S a cap L)) (hM : ∀ w, HeapIs w0 H w → Rd T w b cM M)
    (hm : min sl dl = M.length) (hu : P.underlying t = some (.slice e)) (hs : sizeIs P e = some T.k) (hone : ∀ z : α, ∀ v ∈ T.enc z, one1 v = true) (hc : 0 < cap ∧ lo < cap ∧ lo ≤ L.length ∧ lo + M.length ≤ cap ∧ lo + M.length ≤ 140737488355328) (hn : Nat.blt d n = true)
    (hmm : M.length = m) (hF : Sub ((d, .int .i64 (m : Int)) :: F) F') (h : SO r ds P n w0 ops Q rest F' (H.set i (own T S a cap (L.take lo ++ M ++ L.drop (lo + M.length))))) :
    SO r ds P n w0 ops Q (⟨some d, .call { callee := .builtin .copy, args := #[x, y], argTypes := #[t, tx] }, ty, pos, after, none⟩ :: rest) F H := fun c w hc' hw =>
  wpL_plain rfl (fun _ h => by cases h) fun K hK => by
    subst hmm
    replace hm : Nat.min sl dl = M.length := hm
    obtain ⟨p, w', rfl, h1, h2⟩ := hw.putAt (P := P) (M := M) hi hc.1 hc.2.2.1 hc.2.2.2.1 hc.2.2.2.2 (fun v hv => by obtain ⟨z, _, hz⟩ := List.mem_flatMap.1 hv; exact hone z v hz)
    have hsa : sa (some p) cap lo T.k = some (p.add (lo * T.k)) := by unfold sa; rw [if_neg (by omega)]; rfl
    have hcells : (Builtin.firstCells T.k M.length (.slice b sl cb)).run P w = .ok (M.flatMap T.enc).toArray w := by
      rw [firstCells_len (l2 := M.length) (c2 := cM)]; exact run_firstCells (hM w hw)
    have hrun : (execOp c.eval ⟨some d, .call { callee := .builtin .copy, args := #[x, y], argTypes := #[t, tx] }, ty, pos, after, none⟩).run P w = .ok (.value (.int .i64 (M.length : Int))) w' := by
      simp only [execOp, resolve, run_bind, run_pure, invoke, builtin, List.map_toArray, List.map_cons, List.map_nil, hc'.eval hx, hc'.eval hy, hsa]
      simp [Builtin.copy_, run_underlying hu, run_sizeOf hs, Builtin.lenOf, hm, hcells, h1, goInt]
    unfold Oper.wp
    rw [hrun]
    exact hK _ _ (h _ _ ((hc'.put hn _).sub hF) h2)
/-- append(s[:m], make([]T, k)...) beyond s's room: a new row; s stays as it is -/
theorem o_appendZ {t tn e : TypeId} {kk : IntKind} {bytes i m k : Nat} {kz : Int} {z : α} {zs : List Value} (hx : ev F x = some (.slice a (L.take m).length cap)) (hy : ev F y = some (.int .i64 kz)) (hi : H[i]? = some (own T S a cap L)) (hkz : kz = (k : Int))
    (hu : P.underlying t = some (.slice e)) (hun : P.underlying tn = some (.int kk)) (he : elemIs P e T.k bytes) (hz : zeroOf P e = some zs) (hzs : T.enc z = zs) (hk : 0 < T.k) (hm : m ≤ L.length ∧ cap < m + k ∧ m + k ≤ 1000001 ∧ bytes ≤ 1000) (hn : Nat.blt d n = true)
    (h : ∀ a' cap' S', SO r ds P n w0 ops Q rest ((d, .slice a' (L.take m ++ List.replicate k z).length cap') :: F) (own T S' a' cap' (L.take m ++ List.replicate k z) :: H)) :
    SO r ds P n w0 ops Q (⟨some d, .call { callee := .builtin .append, args := #[x, y], argTypes := #[t, tn] }, ty, pos, after, none⟩ :: rest) F H := fun c w hc hw =>
  wpL_plain rfl (fun _ h => by cases h) fun K hK => by
    have g : SlO T S w a cap L := (hw.at hi).here
    obtain ⟨i0, z0, hi0, hz0, hsz, hby, hzc⟩ := he
    have hsize : sizeIs P e = some T.k := by simp [sizeIs, hi0, hsz]
    have hlm : (L.take m).length = m := by simp; omega
    have hz1 : z0.cells.toList = T.enc z := by
      unfold zeroOf at hz
      rw [hi0] at hz
      simp only [Option.bind_some, hz0, Option.map_some, Option.some.injEq] at hz
      rw [hzs, hz]
    have hlt : cap < m + k := hm.2.1
    have hcap := nextcap_le hlt
    have hbig : ¬ (Builtin.nextslicecap (m + k) cap * i0.bytes > 2 ^ 48) := by
      rw [hby]
      have h1 : Builtin.nextslicecap (m + k) cap * bytes ≤ (m + k + (m + k) / 4 + 1200) * 1000 := Nat.mul_le_mul hcap hm.2.2.2
      have : (2 : Nat) ^ 48 = 281474976710656 := by decide
      omega
    let q : Question := .appendCap (m + k) cap e
    let nc := q.cut (w.tape w.drawn q)
    have hnc : m + k ≤ nc := by show _ ≤ _ + _; omega
    let w1 : World := { w with drawn := w.drawn + 1 }
    have hRL : Rd T w a cap (L.take m) := (SlO.toR (g.shrink (m := cap) hm.1 (by have := g.1; omega) (Nat.le_refl _))).mono (hw.at hi).bound
    have f1 : (Builtin.firstCells T.k m (.slice a m cap)).run P w1 = .ok ((L.take m).flatMap T.enc).toArray w1 := by
      have := run_firstCells (P := P) (SlR.agree (w' := w1) (fun _ _ => rfl) hRL)
      rw [hlm] at this; exact this
    have hzv : (zeroValue e).run P w1 = .ok z0 w1 := by simp [zeroValue, run_typeInfo hi0, hz0]
    have hroomq : ∀ (m : Nat) (w2 : World), (askRoom m).run P w2 = .ok () w2 := by intro m w2; unfold askRoom; split <;> rfl
    have hch : (choose (.appendCap (m + k) cap e)).run P w = .ok nc w1 := rfl
    let cells := ((L.take m).flatMap T.enc).toArray ++ Builtin.zeroCells z0.cells k ++ Builtin.zeroCells z0.cells (nc - (m + k))
    have hwrap : IntKind.i64.wrap (k : Int) = (k : Int) := wrap_i64 (by omega)
    have hne : ¬ (k * T.k = 0) ∨ k = 0 := by rcases Nat.eq_zero_or_pos k with h | h; exact .inr h; exact .inl (by have := Nat.mul_pos h hk; omega)
    have happ : (if k * T.k = 0 then (pure #[] : Sem (Array Value)) else do pure (Builtin.zeroCells (← zeroValue e).cells k)).run P w1 = .ok (Builtin.zeroCells z0.cells k) w1 := by
      rcases hne with hne | h0
      · rw [if_neg hne]; simp [hzv]
      · subst h0; simp [Builtin.zeroCells]
    have hlb : ¬ ((k : Int) * (i0.bytes : Int) > 2 ^ 48) := by
      rw [hby]
      have h1 : k * bytes ≤ 1000001 * 1000 := Nat.mul_le_mul (by omega) hm.2.2.2
      have h2 : ((k * bytes : Nat) : Int) = (k : Int) * (bytes : Int) := by simp
      have : (2 : Int) ^ 48 = 281474976710656 := by decide
      omega
    have hai : ∀ w, (asIntOf (Value.int IntKind.i64 (k : Int))).run P w = .ok (IntKind.i64, (k : Int)) w := fun _ => rfl
    have hrun : (execOp c.eval ⟨some d, .call { callee := .builtin .append, args := #[x, y], argTypes := #[t, tn] }, ty, pos, after, none⟩).run P w = .ok (.value (.slice (some ⟨w.heap.size, 0, none⟩) (m + k) nc)) { w1 with heap := w1.heap.push (.cells cells e) } := by
      simp only [execOp, resolve, run_bind, run_pure, invoke, builtin, List.map_toArray, List.map_cons, List.map_nil, hc.eval hx, hc.eval hy, hlm, hkz]
      unfold Builtin.append_
      simp only [List.getElem?_toArray, List.getElem?_cons_zero, List.getElem?_cons_succ, run_bind, run_underlying hu, run_underlying hun, run_sizeOf hsize, run_pure, asInt, hai, if_true, hwrap]
      rw [if_neg (by omega)]
      simp only [run_bind, run_typeInfo hi0, run_pure, if_neg hlb, Int.toNat_natCast, if_neg (show ¬ m + k ≤ cap by omega), true_or, and_true]
      rw [if_neg (by have : IntKind.i64.max = 9223372036854775807 := rfl; omega)]
      simp only [run_bind, run_typeInfo hi0, run_pure, if_neg hbig]
      simp only [run_bind, run_pure, hch, hroomq, f1, Bool.not_true, Bool.false_eq_true, if_false, happ, hzv, newRow, newObj, Sem.run]
      rfl
    unfold Oper.wp
    rw [hrun]
    have e2 : (L.take m ++ List.replicate k z).length = m + k := by simp; omega
    have hko := h (some ⟨w.heap.size, 0, none⟩) nc (fun c => c = w.heap.size)
    rw [e2] at hko
    have hw1 : HeapIs w0 H w1 := hw.drew _
    refine hK _ _ (hko _ _ (hc.put hn _) (hw1.push _ (fun w1 w2 ha hA => SlO.agree ha hA) ?_))
    refine SlO.fresh (e := e) (cs := cells.toList) (by simp [w1]) (Builtin.zeroCells z0.cells (nc - (m + k))).toList ?_ (by rw [e2]; exact hnc) ?_ (by rw [e2]; omega)
    · simp only [cells, Array.toList_append, List.flatMap_append, List.append_assoc]
      congr 2
      have hzf := zeros_flat (zc := z0.cells) (by rw [hz1]) hk k
      unfold Builtin.zeroCells; rw [hzc] at hzf ⊢; exact hzf
    · simp only [cells, Array.toList_append, List.length_append, Array.length_toList, flat_len (L.take m) T.enc T.len, Builtin.zeroCells, Array.size_map, Array.size_range, hzc, hlm, List.size_toArray]
      rw [← Nat.add_mul, ← Nat.add_mul]
      exact Nat.mul_le_mul_right _ (by omega)
/-- two slices in two blocks don't overlap -/
theorem p_overlaps {f : FuncId} {fn : Func} {tS tR e : TypeId} {ats : Array TypeId} {i j lo lb cb : Nat} {M : List α} {b2 : Option Addr} {S2 : Nat → Prop} {cap2 : Nat} (hf : P.funcs[f]? = some fn) (hname : (fn.name == "runtime.NumGoroutine") = false) (hb : fn.body.isNone = true) (hnx : Extern.findNext fn = none) (he : Extern.find fn = some (Extern.SlicesOverlaps.overlaps #[tS, tS] #[tR]))
    (hx : ev F x = some (.slice b2 M.length cap2)) (hy : ev F y = some (.slice (sa a cap lo T.k) lb cb)) (hi : H[i]? = some (own T S a cap L)) (hj : H[j]? = some (own T S2 b2 cap2 M)) (hij : i ≠ j) (hu : P.underlying tS = some (.slice e)) (hs : sizeIs P e = some T.k) (hL : 0 < L.length) (hM : 0 < M.length) (hk : 0 < T.k) :
    Pure ds P n w0 ⟨dst, .call { callee := .value (.func f), args := #[x, y], argTypes := ats }, ty, pos, after, guard⟩ F H (.bool false) := fun c w hc hw => by
  have g1 := (hw.at hi).here
  have g2 := (hw.at hj).here
  have hap := List.pairwise_iff_getElem.1 hw.apart
  obtain ⟨l1, q1⟩ := List.getElem?_eq_some_iff.1 hi
  obtain ⟨l2, q2⟩ := List.getElem?_eq_some_iff.1 hj
  have hdis : ∀ b, S b → S2 b → False := fun b h1 h2 => by
    rcases Nat.lt_or_gt_of_ne hij with hl | hl
    · exact hap _ _ l1 l2 hl b (by rw [q1]; exact h1) (by rw [q2]; exact h2)
    · exact hap _ _ l2 l1 hl b (by rw [q2]; exact h2) (by rw [q1]; exact h1)
  obtain ⟨p1, p2, p3⟩ := g1
  obtain ⟨r1, r2, r3⟩ := g2
  cases a with
  | none => have : cap = 0 := p3; omega
  | some A =>
    cases b2 with
    | none => have : cap2 = 0 := r3; omega
    | some B =>
      obtain ⟨s1, s2, ⟨cA, tA, s3, s4⟩, _⟩ := p3
      obtain ⟨t1, t2, ⟨cB, tB, t3, t4⟩, _⟩ := r3
      obtain ⟨ab, ao, asp⟩ := A
      obtain ⟨bb, bo, bs⟩ := B
      simp only at s1 s2 s3 s4 t1 t2 t3 t4
      subst s1; subst t1
      have hne : bb ≠ ab := fun e => hdis ab s2 (e ▸ t2)
      obtain ⟨A', hA', hAb⟩ : ∃ A' : Addr, sa (some ⟨ab, ao, none⟩) cap lo T.k = some A' ∧ A'.block = ab := by
        unfold sa; split
        · exact ⟨_, rfl, rfl⟩
        · refine ⟨_, rfl, ?_⟩; unfold Addr.add; split <;> rfl
      have hsz : ∀ w, (Go.sizeOf e).run P w = .ok T.k w := fun w => run_sizeOf hs w
      have hcs : cA.size ≠ 0 := by
        have : T.k ≤ cap * T.k := Nat.le_mul_of_pos_left _ (by omega)
        omega
      have hov := Lib.run_overlaps_apart w tS tR e hu T.k hsz ⟨bb, bo, none⟩ A' M.length cap2 lb cb (by rw [hAb]; exact hne) tB tA cB.size cA.size (by simp [World.shape?, t3]) (by rw [hAb]; simp [World.shape?, s3]) hcs (by simp [World.frozen?, t3]) (by simp [World.frozen?, t3])
      have h3 : (callFunc f #[.slice (some ⟨bb, bo, none⟩) M.length cap2, .slice (some A') lb cb]).run P w = .ok (.value (.bool false)) w := by
        rw [run_callFunc_extern hf hname hb hnx he, hov]; rfl
      have h2 : c.eval (.func f) = .func (.func f) #[] #[] := rfl
      rw [hA'] at hy
      simp [execOp, resolve, h2, Deferred.ofValue, invoke, hc.eval hx, hc.eval hy, h3]
end
/-! ### what slices.Insert writes, step by step -/
theorem ins_a {α : Type} {l v : List α} {i : Nat} {z : α} (hi : i ≤ l.length) (hv : v.length = 1) : (l.take i ++ List.replicate (l.length + v.length - i) z).take i ++ v ++ (l.take i ++ List.replicate (l.length + v.length - i) z).drop (i + v.length) = l.take i ++ v ++ List.replicate (l.length - i) z := by
  have h1 : (l.take i).length = i := by simp; omega
  rw [List.take_append_of_le_length (by omega), List.take_of_length_le (by omega), List.drop_append, List.drop_of_length_le (by omega), h1, hv, List.nil_append, List.drop_replicate]
  congr 2; omega
theorem ins_b {α : Type} {l v : List α} {i lo : Nat} {z : α} (hi : i ≤ l.length) (hv : v.length = 1) (hlo : lo = i + 1) : (l.take i ++ v ++ List.replicate (l.length - i) z).take lo ++ l.drop i ++ (l.take i ++ v ++ List.replicate (l.length - i) z).drop (lo + (l.drop i).length) = l.take i ++ v ++ l.drop i := by
  subst hlo
  have h1 : (l.take i ++ v).length = i + 1 := by simp; omega
  have h2 : (l.take i ++ v ++ List.replicate (l.length - i) z).length ≤ i + 1 + (l.drop i).length := by simp; omega
  rw [List.take_append_of_le_length (by omega), List.take_of_length_le (by omega), List.drop_of_length_le h2, List.append_nil]
theorem ins_c {α : Type} {l : List α} {i lo : Nat} (hi : i < l.length) (hlo : lo = i + 1) : l.take lo ++ l.drop i ++ l.drop (lo + (l.drop i).length) = l.take (i + 1) ++ l.drop i := by
  subst hlo
  rw [List.drop_of_length_le (l := l) (i := i + 1 + (l.drop i).length) (by simp; omega), List.append_nil]
theorem ins_d {α : Type} {l v : List α} {i : Nat} (hi : i < l.length) (hv : v.length = 1) : (l.take (i + 1) ++ l.drop i).take i ++ v ++ (l.take (i + 1) ++ l.drop i).drop (i + v.length) = l.take i ++ v ++ l.drop i := by
  have h1 : (l.take (i + 1)).length = i + 1 := by simp; omega
  rw [List.take_append_of_le_length (by omega), List.take_take, Nat.min_eq_left (by omega), hv, List.drop_append, List.drop_of_length_le (by omega), h1, Nat.sub_self, List.nil_append]; rfl
/-! ### what slices.Reverse does -/
structure RevI {α : Type} (l ls : List α) (i : Nat) (j : Int) : Prop where
  len : ls.length = l.length
  i_ : 2 * i ≤ l.length + 1
  j_ : j = (l.length : Int) - 1 - i
  get : ∀ k (h : k < ls.length) (h2 : k < l.length), ls[k] = if k < i ∨ j < (k : Int) then l[l.length - 1 - k]'(by omega) else l[k]
theorem RevI.start {α : Type} (l : List α) : RevI l l 0 ((l.length : Int) - 1) := ⟨rfl, by omega, by omega, fun k h h2 => by rw [if_neg (by omega)]⟩
theorem RevI.next {α : Type} {l ls : List α} {i : Nat} {j : Int} (h : RevI l ls i j) (hij : (i : Int) < j) (hi : i < ls.length) (hj : j.toNat < ls.length) : RevI l ((ls.set i ls[j.toNat]).set j.toNat ls[i]) (i + 1) (j - 1) := by
  obtain ⟨a, b, c, d⟩ := h
  have gi := d i hi (by omega)
  have gj := d _ hj (by omega)
  rw [if_neg (by omega)] at gi gj
  generalize ls[i] = x at gi ⊢
  generalize ls[j.toNat] = y at gj ⊢
  refine ⟨by simpa using a, by omega, by omega, fun k h h2 => ?_⟩
  have h1 : k < ls.length := by simpa using h
  rw [List.getElem_set, List.getElem_set]
  by_cases e1 : j.toNat = k
  · rw [if_pos e1, if_pos (by omega)]
    refine gi.trans ?_
    congr 1; omega
  · rw [if_neg e1]
    by_cases e2 : i = k
    · rw [if_pos e2, if_pos (by omega)]
      refine gj.trans ?_
      congr 1; omega
    · rw [if_neg e2, d k h1 h2]
      by_cases e3 : k < i ∨ j < (k : Int)
      · rw [if_pos e3, if_pos (by omega)]
      · rw [if_neg e3, if_neg (by omega)]
theorem RevI.done {α : Type} {l ls : List α} {i : Nat} {j : Int} (h : RevI l ls i j) (hij : j ≤ (i : Int)) : ls = l.reverse := by
  obtain ⟨a, b, c, d⟩ := h
  refine List.ext_getElem (by simpa using a) fun k h1 h2 => ?_
  rw [d k h1 (by omega), List.getElem_reverse]
  split
  · rfl
  · congr 1; omega
end Go.Sx

/- A field of a struct that is a value. -/
namespace Go.Sx
open Go.RowKit
def fieldCell (P : Program) (s : TypeId) (f : Nat) : Option Nat :=
  match P.underlying s with
  | some (.struct fs) => match fs[f]? with
    | some g => if shp P g.type = some none then some g.offset else none
    | none => none
  | _ => none
section
variable {P : Program} {n : Nat} {w0 : World} {ds : List Deferred} {F : List (Nat × Value)} {H : List Ent}
variable {ty : TypeId} {pos : String} {after : Array Edge} {guard : Option (Nat × Bool)} {dst : Option Tmp} {x : Operand}
theorem run_field {s : TypeId} {f off : Nat} {vs : List Value} {v : Value} (hf : fieldCell P s f = some off) (hv : vs[off]? = some v) (w : World) : (Instr.field s (.agg vs.toArray) f).run P w = .ok v w := by
  unfold fieldCell at hf
  split at hf
  · rename_i fs hu
    split at hf
    · rename_i g hg
      split at hf
      · rename_i hs
        simp only [Option.some.injEq] at hf
        subst hf
        simp [Instr.field, run_underlying hu, hg, asAgg, part, run_isAgg_false hs, hv]
      · cases hf
    · cases hf
  · cases hf
theorem p_field {s : TypeId} {f off : Nat} {vs : List Value} {v : Value} (hx : ev F x = some (.agg vs.toArray)) (hf : fieldCell P s f = some off) (hv : vs[off]? = some v) : Pure ds P n w0 ⟨dst, .field s x f, ty, pos, after, guard⟩ F H v := fun a w ha _ => by
  simp [execOp, ha.eval hx, run_field hf hv]
end
end Go.Sx

/- A range over a function: the rounds, the functions that call yield, and how a function that holds such a loop ends. -/
namespace Go.Sx
open Go.RowKit
section
variable {P : Program} {n : Nat} {w0 : World} {r : Option Nat} {ds : List Deferred} {Q : Exit → Act → World → Prop} {F F' : List (Nat × Value)} {H H' : List Ent} {ops : Array Oper}
variable {ty : TypeId} {pos : String} {after : Array Edge} {guard : Option (Nat × Bool)} {dst : Option Tmp} {rest : List Oper} {d : Nat} {x y : Operand}

/-! ### Regions that draw their order, within a round -/
def noDefer (o : Oper) : Bool := match o.op with | .defer _ => false | _ => true
theorem noDefer_spec {l : List Oper} (h : l.all noDefer = true) : ∀ (i : Nat) (o : Oper), l.toArray[i]? = some o → ∀ c, o.op ≠ .defer c := by
  intro i o ho c hc
  have := List.all_eq_true.1 h o (by rw [List.getElem?_toArray] at ho; exact List.mem_of_getElem? ho)
  simp [noDefer, hc] at this
theorem wpOps_in {q : Nat} (hno : ∀ a w, Q .outgrown a w → False) (hd : ∀ (i : Nat) (o : Oper), ops[i]? = some o → ∀ c, o.op ≠ .defer c) : ∀ (L : List Nat) (a : Act) (w : World), wpOps P ops Q L a w → wpOpsIn (fenceOf q) 0 P ops Q L a w
  | [], _, _, h => h
  | i :: rest, a, w, h => by
    cases ho : ops[i]? with
    | none =>
      simp only [wpOps, ho] at h
      simp only [wpOpsIn, ho]
      exact wpOps_in hno hd rest a w h
    | some o =>
      simp only [wpOps, ho] at h
      simp only [wpOpsIn, ho]
      by_cases hw : Region.wanted o (yielded ops a.tmps) = true
      · rw [if_pos hw] at h ⊢
        rcases h with h | ⟨_, a', w', h⟩
        · exact Oper.wpIn_mono (fun a w => wpOps_in hno hd rest a w) (op_in (hd i o ho) h)
        · exact (hno _ _ h).elim
      · rw [if_neg hw] at h ⊢
        exact ⟨fun _ _ => fenceOf_fn _ _, wpOps_in hno hd rest _ w h⟩
theorem c_heldR {id m q : Nat} {l : List Oper} {ls : Array Bool} (hm : P.follows .mixedOrders = true) (hd : l.all noDefer = true) (hno : ∀ a w, Q .outgrown a w → False) (Hr : List Ent) (hl : l.length = m) (hls : ls = Array.replicate m false) (h : SH ds P n w0 l.toArray Q Hr m ls F H) : SC (some q) ds P n w0 Q (.region id l.toArray true) F H := fun a w ha hw =>
  wpIn_region_draw fun t => wpOps_in hno (noDefer_spec hd) _ _ _ (by
    have := h a _ ha (hw.drew (w.drawn + 1))
    subst hl; subst hls
    simp only [Region.schedule, hm, Bool.true_or, if_true]
    exact wpAny_sound l.toArray.size t _ a _ (wpAny_of_held _ _ _ _ (by simpa using this)))
theorem c_drawR {id q : Nat} {l : List Oper} (hm : P.follows .mixedOrders = true) (hd : l.all noDefer = true) (hno : ∀ a w, Q .outgrown a w → False) (hB : Region.lexB .any l.toArray = true) (h : SW ds P n w0 l.toArray Q l F H) : SC (some q) ds P n w0 Q (.region id l.toArray true) F H := fun a w ha hw =>
  wpIn_region_draw fun t => wpOps_in hno (noDefer_spec hd) _ _ _ (by
    simp only [Region.schedule, hm, Bool.true_or, if_true]
    refine wpAny_sound l.toArray.size t _ a _ ?_
    simp only [Region.lexB, Bool.and_eq_true] at hB
    refine wpAny_of_quiet (C := HeapIs w0 H) (Q := fun a' => ∀ w', HeapIs w0 H w' → Q .normal a' w') (fun _ w' hw' h => h w' hw') _ _ _ _ (hw.drew _) ?_
    have := wpAnyQ_lex (C := HeapIs w0 H) (md := .any) hB.1 l.toArray.toList 0 (Array.replicate l.toArray.size false) a (by simp) (by simpa using hB.2) (by simpa using h a ha)
    simpa using this)

/-! ### Several entries as one -/
def pack (H : List Ent) : Ent := ⟨fun b => ∃ e ∈ H, e.S b, fun w => (∀ e ∈ H, e.Good w) ∧ H.Pairwise fun e f => Disj e.S f.S⟩
theorem Ent.Good.agree {e : Ent} {w1 w2 : World} (ha : Agree e.S w1 w2) (g : e.Good w1) : e.Good w2 :=
  ⟨g.stable, fun b hb => (by
    have h1 := g.bound b hb
    have h2 := ha b hb
    rcases Nat.lt_or_ge b w2.heap.size with h | h
    · exact h
    · rw [Array.getElem?_eq_none h, Array.getElem?_eq_getElem h1] at h2; cases h2), g.stable w1 w2 ha g.here⟩
theorem HeapIs.pack {R : List Ent} {w : World} (h : HeapIs w0 (H ++ R) w) : HeapIs w0 (Sx.pack H :: R) w := by
  have hp := List.pairwise_append.1 h.apart
  refine ⟨h.same, h.size, fun e he => ?_, List.pairwise_cons.2 ⟨fun f hf b hb hb' => ?_, hp.2.1⟩⟩
  · rcases List.mem_cons.1 he with rfl | he
    · exact ⟨fun w1 w2 ha hA => ⟨fun e he => (hA.1 e he).agree (fun b hb => ha b ⟨e, he, hb⟩), hA.2⟩, fun b ⟨e, he, hb⟩ => (h.good e (by simp [he])).bound b hb, fun e he => h.good e (by simp [he]), hp.1⟩
    · exact h.good e (by simp [he])
  · obtain ⟨e, he, hb⟩ := hb
    exact hp.2.2 e he f hf b hb hb'
theorem HeapIs.unpack {R : List Ent} {w : World} (h : HeapIs w0 (Sx.pack H :: R) w) : HeapIs w0 (H ++ R) w := by
  have hp := List.pairwise_cons.1 h.apart
  have hk := (h.good (Sx.pack H) (by simp)).here
  refine ⟨h.same, h.size, fun e he => ?_, List.pairwise_append.2 ⟨hk.2, hp.2, fun e he f hf b hb hb' => hp.1 f hf b ⟨e, he, hb⟩ hb'⟩⟩
  rcases List.mem_append.1 he with he | he
  · exact hk.1 e he
  · exact h.good e (by simp [he])

/-! ### The loop's record and the block for deferred calls -/
def objE (B : Nat) (o : Obj) : Ent := ⟨fun b => b = B, fun w => w.heap[B]? = some o⟩
def loopE (l : Nat) (rc : Loop) : Ent := objE l (.loop rc)
def defE (D : Nat) : Ent := objE D (.deferred (some []))
def recd (rc : Loop) (st : LoopState) (pe : Option Code) : Loop := { rc with state := st, pending := pe }
def mark (D : Nat) : Deferred := { target := .collected D, args := #[] }
theorem objE_st {B : Nat} {o : Obj} : ∀ w1 w2, Agree (objE B o).S w1 w2 → (objE B o).A w1 → (objE B o).A w2 := fun w1 w2 ha hA => (ha B rfl).trans hA
theorem HeapIs.putObj {w : World} {i B : Nat} {o o' : Obj} (h : HeapIs w0 H w) (hi : H[i]? = some (objE B o)) : HeapIs w0 (H.set i (objE B o')) (w.putObj B o') := by
  have hb : B < w.heap.size := (h.at hi).bound B rfl
  exact h.change hi ⟨rfl, rfl, rfl⟩ (by simp) (fun b hb => .inl hb) (fun b _ hb => World.putObj_heap_other hb) objE_st (World.putObj_heap_same hb)
theorem HeapIs.newObj {w : World} (h : HeapIs w0 H w) (o : Obj) : HeapIs w0 (objE w.heap.size o :: H) (w.alloc o) :=
  h.push o (fun w1 w2 ha hA => (ha _ rfl).trans hA) (World.alloc_heap_new w o)

/-! ### What an iterator promises -/
/-- The function f, called with yield and what it has captured, hands yield the values of the rounds 0 .. N - 1 one after another, until yield says no. e0: what the rounds may change; E: what the rounds may see of the iterator's own. -/
def ItOk (P : Program) (f : FuncId) (caps : List Value) (Pr : Ent → World → Prop) (X : Type) (encs : X → Nat → List Value) (E : X → Nat → List Ent) (N : Nat) : Prop :=
  ∀ (l : Nat) (φ : Nat → Ent → Prop) (ψ : Ent → Prop) (e0 : Ent) (w : World), HeapIs w [outer w [e0], e0] w → Pr e0 w → φ 0 e0 →
    (∀ x k e W, k < N → φ k e → HeapIs w (outer w [e0] :: e :: E x k) W → YieldAt Fence.wide 0 P l (encs x k).toArray W (fun en W' => ∃ b e', en = .returned (.bool b) ∧ (b = true → φ (k + 1) e') ∧ (b = false → ψ e') ∧ HeapIs w (outer w [e0] :: e' :: E x k) W')) →
    Calls P f (.func (.yield l) #[] #[] :: caps).toArray w (fun en W' => ∃ e', en = .returned (.tuple #[]) ∧ (φ N e' ∨ ψ e') ∧ HeapIs w [outer w [e0], e'] W')
def EndI (w0 : World) (e0 : Ent) (φ : Nat → Ent → Prop) (ψ : Ent → Prop) (N : Nat) : Ending → World → Prop := fun en W' => ∃ e', en = .returned (.tuple #[]) ∧ (φ N e' ∨ ψ e') ∧ HeapIs w0 [outer w0 [e0], e'] W'
theorem fnIt {f : FuncId} {fn : Func} {c : Code} {caps : List Value} {Pr : Ent → World → Prop} {X : Type} {encs : X → Nat → List Value} {E : X → Nat → List Ent} {N nt : Nat} {F1 : List (Nat × Value)} (hf : P.funcs[f]? = some fn) (hb : fn.body = some c) (hn : fn.ntmps = nt) (hle : Nat.ble (caps.length + 1) nt = true)
    (hF : F1 = (List.range' 1 caps.length).zip caps)
    (h : ∀ (l : Nat) (φ : Nat → Ent → Prop) (ψ : Ent → Prop) (e0 : Ent) (w0 : World), Pr e0 w0 → φ 0 e0 →
      (∀ x k e W, k < N → φ k e → HeapIs w0 (outer w0 [e0] :: e :: E x k) W → YieldAt Fence.wide 0 P l (encs x k).toArray W (fun en W' => ∃ b e', en = .returned (.bool b) ∧ (b = true → φ (k + 1) e') ∧ (b = false → ψ e') ∧ HeapIs w0 (outer w0 [e0] :: e' :: E x k) W')) →
      SC none [] P nt w0 (bodyPost P fn (EndI w0 e0 φ ψ N)) c ((0, .func (.yield l) #[] #[]) :: F1) [outer w0 [e0], e0]) : ItOk P f caps Pr X encs E N := fun l φ ψ e0 w hw hp h0 Y => by
  refine calls_of_wp hf hb ?_
  have e : (.func (.yield l) #[] #[] :: caps : List Value).toArray.size = caps.length + 1 := by simp
  have hle' : caps.length + 1 ≤ nt := Nat.le_of_ble_eq_true hle
  have ho := ok_begin (.func (.yield l) #[] #[] :: caps) (nt - (caps.length + 1))
  rw [show (.func (.yield l) #[] #[] :: caps : List Value).length + (nt - (caps.length + 1)) = nt by simp; omega] at ho
  have hz : (List.range (.func (.yield l) #[] #[] :: caps : List Value).length).zip (.func (.yield l) #[] #[] :: caps) = (0, .func (.yield l) #[] #[]) :: F1 := by
    rw [hF, List.range_eq_range', List.length_cons, List.range'_succ, List.zip_cons_cons]
  rw [hz] at ho
  rw [hn, e]
  exact h l φ ψ e0 w hp h0 Y _ w ho hw
theorem q_endI {fn : Func} {e0 e : Ent} {φ : Nat → Ent → Prop} {ψ : Ent → Prop} {N : Nat} (hr : ResT [] P n w0 F H fn (.tuple #[])) (he : φ N e ∨ ψ e) (hH : ∀ w, HeapIs w0 H w → HeapIs w0 [outer w0 [e0], e] w) : SQ [] n w0 (bodyPost P fn (EndI w0 e0 φ ψ N)) .ret F H := fun a w ha hw =>
  bodyPost_ret (hr a w ha hw) (by simp [ha.defers]) ⟨e, rfl, he, hH w hw⟩

/-- A region that calls yield. -/
theorem c_regionY {id : Nat} {l : List Oper} (h : SO (some 0) ds P n w0 l.toArray Q l F H) : SC none ds P n w0 Q (.region id l.toArray false) F H := fun a w ha hw =>
  (wpIn_wide (n := 0)).1 (wpIn_region_lit (h a w ha hw))
theorem run_callYield {l : Nat} {args : Array Operand} {ats : Array TypeId} {vs : List Value} {a : Act} {w : World} (ha : Ok n ds F a) (hx : ev F x = some (.func (.yield l) #[] #[])) (hv : evs F args.toList = some vs) {fn : FuncId} {tmps : Array Value} {assign body : Code} (hy : (Instr.yield l vs.toArray).run P w = .ok (.round l fn tmps assign body) w) :
    (execOp a.eval ⟨dst, .call { callee := .value x, args := args, argTypes := ats }, ty, pos, after, guard⟩).run P w = .ok (.round l fn tmps assign body) w := by
  have h1 : args.map a.eval = vs.toArray := by
    rw [← ha.evals hv]; apply Array.ext'; simp
  simp [execOp, resolve, h1, ha.eval hx, Deferred.ofValue, invoke, hy]
theorem o_yield {l : Nat} {args : Array Operand} {ats : Array TypeId} {vs : List Value} {e0 e : Ent} {Ex : List Ent} {φ ψ : Ent → Prop} (hx : ev F x = some (.func (.yield l) #[] #[])) (hv : evs F args.toList = some vs)
    (Y : ∀ W, HeapIs w0 (outer w0 [e0] :: e :: Ex) W → YieldAt Fence.wide 0 P l vs.toArray W (fun en W' => ∃ b e', en = .returned (.bool b) ∧ (b = true → φ e') ∧ (b = false → ψ e') ∧ HeapIs w0 (outer w0 [e0] :: e' :: Ex) W'))
    (hn : Nat.blt d n = true) (h1 : ∀ e', φ e' → SO (some 0) ds P n w0 ops Q rest ((d, .bool true) :: F) (outer w0 [e0] :: e' :: Ex)) (h2 : ∀ e', ψ e' → SO (some 0) ds P n w0 ops Q rest ((d, .bool false) :: F) (outer w0 [e0] :: e' :: Ex)) :
    SO (some 0) ds P n w0 ops Q (⟨some d, .call { callee := .value x, args := args, argTypes := ats }, ty, pos, after, none⟩ :: rest) F (outer w0 [e0] :: e :: Ex) := fun a w ha hw => by
  show wpListIn (fenceOf 0) 0 P ops Q _ a w
  refine wpListIn_plain rfl fun K hK => ?_
  obtain ⟨fn, tmps, assign, body, hy, hR⟩ := Y w hw
  refine ⟨fun _ _ => fenceOf_fn _ _, ?_⟩
  rw [fenceOf_sem _ _ _ (fun _ h => by cases h), run_callYield ha hx hv hy]
  refine ⟨fun hh => by simp [fenceOf_depth] at hh, hR.mono ?_⟩
  rintro en w' ⟨b, e', rfl, ht, hf, hw'⟩
  cases b with
  | true => exact hK _ _ (h1 e' (ht rfl) _ _ (ha.put hn _) hw')
  | false => exact hK _ _ (h2 e' (hf rfl) _ _ (ha.put hn _) hw')

theorem HeapIs.comm {w : World} {e : Ent} {Hs R : List Ent} (h : HeapIs w0 (Hs ++ (e :: R)) w) : HeapIs w0 (e :: (Hs ++ R)) w := by
  have hp := List.pairwise_append.1 h.apart
  have hq := List.pairwise_cons.1 hp.2.1
  refine ⟨h.same, h.size, fun f hf => h.good f ?_, List.pairwise_cons.2 ⟨fun f hf => ?_, List.pairwise_append.2 ⟨hp.1, hq.2, fun a ha f hf => hp.2.2 a ha f (by simp [hf])⟩⟩⟩
  · simp only [List.mem_cons, List.mem_append] at hf ⊢; rcases hf with h | h | h <;> simp [h]
  · rcases List.mem_append.1 hf with hf | hf
    · exact fun b hb hb' => hp.2.2 f hf e (by simp) b hb' hb
    · exact hq.1 f hf

/-! ### The loop -/
/-- What a round's end must bring. -/
def RR (W1 : World) (e0 : Ent) (l : Nat) (rc : Loop) {St : Type} (HI : St → List Ent) (I : Nat → St → Prop) (Ix : Code → St → Prop) (k : Nat) (Ex : List Ent) : Ending → World → Prop := fun en W' => ∃ b e', en = .returned (.bool b) ∧
  (b = true → ∃ s, I (k + 1) s ∧ e' = pack (loopE l (recd rc .ready none) :: HI s)) ∧ (b = false → ∃ c s, Ix c s ∧ e' = pack (loopE l (recd rc .done (some c)) :: HI s)) ∧ HeapIs W1 (outer W1 [e0] :: e' :: Ex) W'
theorem q_begin {l : Nat} {rc : Loop} {body : Code} {QB : Exit → Act → World → Prop} {i : Nat} (hi : H[i]? = some (loopE l (recd rc .ready none))) (h : SC (some (l + 1)) [] P n w0 QB body F (H.set i (loopE l (recd rc .busy none)))) :
    SQ [] n w0 (Exit.then (fun a1 w1 => ∃ w2, (Instr.beginRound l).run P w1 = .ok () w2 ∧ body.wpIn (Fence.wide.inRound l) 0 P QB a1 w2) (fun _ _ _ => False)) .normal F H := fun a w ha hw =>
  ⟨_, run_beginRound (hw.at hi).here rfl, h a _ ha (hw.putObj hi)⟩
theorem HeapIs.repack {W1 w : World} {e1 e0 : Ent} {Hs Ex : List Ent} (h : HeapIs W1 (e1 :: e0 :: (Hs ++ Ex)) w) : HeapIs W1 (e1 :: Sx.pack (e0 :: Hs) :: Ex) w := by
  have h2 : HeapIs W1 ((e0 :: Hs) ++ (e1 :: Ex)) w := by
    refine ⟨h.same, h.size, fun e he => h.good e ?_, ?_⟩
    · simp only [List.cons_append, List.mem_cons, List.mem_append] at he ⊢
      rcases he with h | h | h | h <;> simp [h]
    · have hp := List.pairwise_cons.1 h.apart
      have hq := List.pairwise_append.1 (show ((e0 :: Hs) ++ Ex).Pairwise _ from hp.2)
      refine List.pairwise_append.2 ⟨hq.1, List.pairwise_cons.2 ⟨fun f hf => hp.1 f (by simp [hf]), hq.2.1⟩, fun e he f hf => ?_⟩
      rcases List.mem_cons.1 hf with rfl | hf
      · exact fun b hb hb' => hp.1 e (by simp only [List.mem_cons, List.mem_append] at he ⊢; rcases he with h | h <;> simp [h]) b hb' hb
      · exact hq.2.2 e he f hf
  have h3 := h2.pack
  refine ⟨h3.same, h3.size, fun e he => h3.good e ?_, ?_⟩
  · simp only [List.mem_cons] at he ⊢; rcases he with h | h | h <;> simp [h]
  · have hp := List.pairwise_cons.1 h3.apart
    have hq := List.pairwise_cons.1 hp.2
    refine List.pairwise_cons.2 ⟨fun f hf => ?_, List.pairwise_cons.2 ⟨fun f hf => hp.1 f (by simp [hf]), hq.2⟩⟩
    rcases List.mem_cons.1 hf with rfl | hf
    · exact fun b hb hb' => hp.1 _ (by simp) b hb' hb
    · exact hq.1 f hf
theorem HeapIs.openpack {W1 w : World} {e1 e0 : Ent} {Hs Ex : List Ent} (h : HeapIs W1 (e1 :: Sx.pack (e0 :: Hs) :: Ex) w) : HeapIs W1 (e1 :: e0 :: (Hs ++ Ex)) w := by
  have hp := List.pairwise_cons.1 h.apart
  have hq := List.pairwise_cons.1 hp.2
  have hk := (h.good (Sx.pack (e0 :: Hs)) (by simp)).here
  refine ⟨h.same, h.size, fun e he => ?_, ?_⟩
  · simp only [List.mem_cons, List.mem_append] at he
    rcases he with rfl | rfl | he | he
    · exact h.good e (by simp)
    · exact hk.1 _ (by simp)
    · exact hk.1 _ (by simp [he])
    · exact h.good e (by simp [he])
  · refine List.pairwise_cons.2 ⟨fun f hf b hb hb' => ?_, ?_⟩
    · simp only [List.mem_cons, List.mem_append] at hf
      rcases hf with rfl | hf | hf
      · exact hp.1 (Sx.pack (f :: Hs)) (by simp) b hb ⟨f, by simp, hb'⟩
      · exact hp.1 (Sx.pack (e0 :: Hs)) (by simp) b hb ⟨f, by simp [hf], hb'⟩
      · exact hp.1 f (by simp [hf]) b hb hb'
    · show ((e0 :: Hs) ++ Ex).Pairwise _
      exact List.pairwise_append.2 ⟨hk.2, hq.2, fun e he f hf b hb hb' => hq.1 f hf b ⟨e, he, hb⟩ hb'⟩
theorem q_next {W1 : World} {e0 : Ent} {l : Nat} {rc : Loop} {St : Type} {HI : St → List Ent} {I : Nat → St → Prop} {Ix : Code → St → Prop} {k : Nat} {Ex : List Ent} (s : St) (hI : I (k + 1) s) (hH : ∀ w, HeapIs W1 H w → HeapIs W1 (outer W1 [e0] :: loopE l (recd rc .busy none) :: (HI s ++ Ex)) w) :
    SQ [] n W1 (roundPost P l (RR W1 e0 l rc HI I Ix k Ex)) .normal F H := fun a w ha hw => by
  have h1 := hH w hw
  have h2 := h1.putObj (i := 1) (o' := .loop (recd rc .ready none)) rfl
  exact ⟨_, _, run_endRound none (h1.at (i := 1) rfl).here, true, _, rfl, fun _ => ⟨s, hI, rfl⟩, fun h => (by cases h), HeapIs.repack h2⟩
theorem q_leave {W1 : World} {e0 : Ent} {l : Nat} {rc : Loop} {St : Type} {HI : St → List Ent} {I : Nat → St → Prop} {Ix : Code → St → Prop} {k : Nat} {Ex : List Ent} (s : St) (hI : Ix .ret s) (hH : ∀ w, HeapIs W1 H w → HeapIs W1 (outer W1 [e0] :: loopE l (recd rc .busy none) :: (HI s ++ Ex)) w) :
    SQ [] n W1 (roundPost P l (RR W1 e0 l rc HI I Ix k Ex)) .ret F H := fun a w ha hw => by
  have h1 := hH w hw
  have h2 := h1.putObj (i := 1) (o' := .loop (recd rc .done (some .ret))) rfl
  exact ⟨_, _, run_endRound (some .ret) (h1.at (i := 1) rfl).here, false, _, rfl, fun h => (by cases h), fun _ => ⟨.ret, s, hI, rfl⟩, HeapIs.repack h2⟩
theorem q_leaveX {W1 : World} {e0 : Ent} {l id : Nat} {rc : Loop} {St : Type} {HI : St → List Ent} {I : Nat → St → Prop} {Ix : Code → St → Prop} {k : Nat} {Ex : List Ent} (s : St) (hI : Ix (.exit id) s) (hH : ∀ w, HeapIs W1 H w → HeapIs W1 (outer W1 [e0] :: loopE l (recd rc .busy none) :: (HI s ++ Ex)) w) :
    SQ [] n W1 (roundPost P l (RR W1 e0 l rc HI I Ix k Ex)) (.exit id) F H := fun a w ha hw => by
  have h1 := hH w hw
  have h2 := h1.putObj (i := 1) (o' := .loop (recd rc .done (some (.exit id)))) rfl
  exact ⟨_, _, run_endRound (some (.exit id)) (h1.at (i := 1) rfl).here, false, _, rfl, fun h => (by cases h), fun _ => ⟨.exit id, s, hI, rfl⟩, HeapIs.repack h2⟩

/-- The frame of a round: what is known ahead of the loop, with yield's arguments. -/
def putF : List Tmp → List Value → List (Nat × Value) → List (Nat × Value)
  | p :: ps, v :: vs, F => putF ps vs ((p, v) :: F)
  | _, _, F => F
theorem ok_putF : ∀ (ps : List Tmp) (vs : List Value) {F : List (Nat × Value)} {tmps : Array Value}, ps.all (Nat.blt · n) = true → Ok n [] F ⟨tmps, []⟩ → Ok n [] (putF ps vs F) ⟨(ps.zip vs).foldl (fun t (p, v) => t.setIfInBounds p v) tmps, []⟩
  | [], _, _, _, _, h => by simpa [putF] using h
  | p :: ps, [], _, _, _, h => by simpa [putF] using h
  | p :: ps, v :: vs, F, tmps, hb, h => by
    simp only [List.all_cons, Bool.and_eq_true] at hb
    simp only [putF, List.zip_cons_cons, List.foldl_cons]
    exact ok_putF ps vs hb.2 (h.put hb.1 v)
theorem c_rangeFunc {g : Operand} {ps : List Tmp} {assign body : Code} {f : FuncId} {caps : List Value} {Pr : Ent → World → Prop} {X : Type} {encs : X → Nat → List Value} {E : X → Nat → List Ent} {N : Nat}
    (hg : ev F g = some (.func (.func f) #[] caps.toArray)) (hP : HasFn P f) (hit : ItOk P f caps Pr X encs E N) (hlen : ∀ x k, (encs x k).length = ps.length) (hblt : ps.all (Nat.blt · n) = true)
    {St : Type} (HI : St → List Ent) (I : Nat → St → Prop) (Ix : Code → St → Prop) (R : List Ent) (s0 : St) (hI : I 0 s0) (hH : ∀ w, HeapIs w0 H w → HeapIs w0 (HI s0 ++ R) w)
    (hpr : ∀ D e0 W1, HeapIs w0 (e0 :: defE D :: R) W1 → Pr e0 W1)
    (round : ∀ (l : Nat) (rc : Loop) (D : Nat) (e0 : Ent) (W1 : World), HeapIs w0 (e0 :: defE D :: R) W1 → ∀ x k s, k < N → I k s →
      SC (some (l + 1)) [] P n W1 (Exit.then (fun a1 w1 => ∃ w2, (Instr.beginRound l).run P w1 = .ok () w2 ∧ body.wpIn (Fence.wide.inRound l) 0 P (roundPost P l (RR W1 e0 l rc HI I Ix k (E x k))) a1 w2) (fun _ _ _ => False)) assign (putF ps (encs x k) F) (outer W1 [e0] :: loopE l (recd rc .ready none) :: (HI s ++ E x k)))
    (after : ∀ D s, I N s → SQ (mark D :: ds) n w0 Q .normal F (defE D :: (HI s ++ R)))
    (jump : ∀ D c s, Ix c s → SC none (mark D :: ds) P n w0 Q c F (defE D :: (HI s ++ R))) :
    SC none ds P n w0 Q (.rangeFunc g ps.toArray assign body) F H := fun a w ha hw => by
  refine (wpIn_wide (n := 0)).1 (wpIn_rangeFunc ?_)
  intro fn _
  have hw1 := hH w hw
  have hround : Fence.wide.round = none := rfl
  rw [hround]
  obtain ⟨rc, hrc⟩ : ∃ rc : Loop, rc = { state := .ready, pending := none, fn, tmps := a.tmps, params := ps.toArray, assign, body, defers := w.heap.size } := ⟨_, rfl⟩
  obtain ⟨W1, hW1⟩ : ∃ W1, (w.alloc (.deferred (some []))).alloc (.loop rc) = W1 := ⟨_, rfl⟩
  have hA : HeapIs w0 (loopE (w.heap.size + 1) (recd rc .ready none) :: defE w.heap.size :: (HI s0 ++ R)) W1 := by
    have h1 := (hw1.newObj (.deferred (some []))).newObj (.loop rc)
    rw [hW1, World.size_alloc] at h1
    have e : recd rc .ready none = rc := by rw [hrc]; rfl
    rw [e]; exact h1
  have hB : HeapIs w0 (pack (loopE (w.heap.size + 1) (recd rc .ready none) :: HI s0) :: defE w.heap.size :: R) W1 := by
    refine HeapIs.pack (H := loopE (w.heap.size + 1) (recd rc .ready none) :: HI s0) (R := defE w.heap.size :: R) ?_
    refine ⟨hA.same, hA.size, fun e he => hA.good e ?_, ?_⟩
    · simp only [List.cons_append, List.mem_cons, List.mem_append] at he ⊢
      rcases he with h | h | h | h <;> simp [h]
    · have hp := List.pairwise_cons.1 hA.apart
      have hq := List.pairwise_cons.1 hp.2
      have hr := List.pairwise_append.1 hq.2
      refine List.pairwise_cons.2 ⟨fun f hf => hp.1 f ?_, List.pairwise_append.2 ⟨hr.1, List.pairwise_cons.2 ⟨fun f hf => hq.1 f (by simp [hf]), hr.2.1⟩, fun e he f hf => ?_⟩⟩
      · have hf : f ∈ HI s0 ++ (defE w.heap.size :: R) := hf
        simp only [List.mem_append, List.mem_cons] at hf ⊢; rcases hf with h | h | h <;> simp [h]
      · rcases List.mem_cons.1 hf with rfl | hf
        · exact fun b hb hb' => hq.1 e (by simp [he]) b hb' hb
        · exact hr.2.2 e he f hf
  obtain ⟨e0, he0⟩ : ∃ e0, e0 = pack (loopE (w.heap.size + 1) (recd rc .ready none) :: HI s0) := ⟨_, rfl⟩
  rw [← he0] at hB
  have hC : HeapIs W1 [outer W1 [e0], e0] W1 := HeapIs.inner (pre := [e0]) (R := defE w.heap.size :: R) hB
  obtain ⟨gfn, gc, hg1, hg2, hg3⟩ := hP
  have hcall : ∀ (args : Array Value) (v : World), (callFunc f args).run P v = .ok (.enter f args) v := fun args v => by
    have hname' : gfn.name ≠ "runtime.NumGoroutine" := by intro e; rw [e] at hg3; simp at hg3
    simp [callFunc, program, Sem.run, hg1, hg2, hname']
  refine ⟨w.heap.size + 1, [mark w.heap.size], W1, { target := .fn (.func f) caps.toArray, args := #[.func (.yield (w.heap.size + 1)) #[] #[]] }, W1, f, #[.func (.yield (w.heap.size + 1)) #[] #[]] ++ caps.toArray, W1, ?_, ?_, ?_, ?_, fun hh => (by cases hh), ?_⟩
  · rw [← hW1, hrc]; exact run_enterLoop_outer _ _ _ _ _
  · simp only [resolve, ha.eval hg]
    simp [go_sem]
  · intro f' hf'; trivial
  · simp [invoke, go_sem, hcall]
  · have hargs : #[.func (.yield (w.heap.size + 1)) #[] #[]] ++ caps.toArray = (.func (.yield (w.heap.size + 1)) #[] #[] :: caps : List Value).toArray := by simp
    rw [hargs]
    refine callsIn_wide.2 ?_
    refine (hit (w.heap.size + 1) (fun k e => ∃ s, I k s ∧ e = pack (loopE (w.heap.size + 1) (recd rc .ready none) :: HI s)) (fun e => ∃ c s, Ix c s ∧ e = pack (loopE (w.heap.size + 1) (recd rc .done (some c)) :: HI s)) e0 W1 hC (hpr _ _ _ hB) ⟨s0, hI, he0⟩ ?_).mono ?_
    · rintro x k e W hk ⟨s, hs, rfl⟩ hW
      have h2 := hW.openpack
      have hl := (h2.at (i := 1) rfl).here
      have hy := run_yield (P := P) (args := (encs x k).toArray) hl (by simp [recd, hrc, hlen])
      refine ⟨_, _, _, _, hy, roundIn_of_wpIn trivial ?_⟩
      have hrd := round (w.heap.size + 1) rc w.heap.size e0 W1 hB x k s hk hs
      have hok : Ok n [] (putF ps (encs x k) F) ⟨((recd rc .ready none).params.zip (encs x k).toArray).foldl (fun tmps (t, a) => tmps.setIfInBounds t a) (recd rc .ready none).tmps, []⟩ := by
        have h0 : Ok n [] F ⟨a.tmps, []⟩ := ⟨rfl, ha.size, ha.knows⟩
        have h1 := ok_putF ps (encs x k) hblt h0
        have e1 : (recd rc .ready none).tmps = a.tmps := by rw [hrc]; rfl
        have e2 : (recd rc .ready none).params = ps.toArray := by rw [hrc]; rfl
        rw [e1, e2]
        simpa using h1
      have e3 : (recd rc .ready none).assign = assign := by rw [hrc]; rfl
      have e4 : (recd rc .ready none).body = body := by rw [hrc]; rfl
      rw [e3, e4]
      exact hrd _ W hok h2
    · rintro en W2 ⟨e', rfl, hor, hW2⟩
      have hback : HeapIs w0 ([e'] ++ (defE w.heap.size :: R)) W2 := HeapIs.back (pre := [e0]) (post := [e']) (R := defE w.heap.size :: R) hB hW2
      rcases hor with ⟨s, hs, rfl⟩ | ⟨c, s, hs, rfl⟩
      · have h3 : HeapIs w0 (loopE (w.heap.size + 1) (recd rc .ready none) :: (HI s ++ (defE w.heap.size :: R))) W2 := HeapIs.unpack (H := loopE (w.heap.size + 1) (recd rc .ready none) :: HI s) hback
        have h4 := h3.putObj (i := 0) (o' := .loop { recd rc .ready none with state := .exhausted }) rfl
        refine ⟨none, _, run_endLoop (h3.at (i := 0) rfl).here (by simp [recd]), ?_⟩
        refine after w.heap.size s hs _ _ ⟨by simp [ha.defers], ha.size, ha.knows⟩ ?_
        have h5 : HeapIs w0 (HI s ++ (defE w.heap.size :: R)) _ := h4.drop (List.sublist_cons_self _ _)
        exact h5.comm
      · have h3 : HeapIs w0 (loopE (w.heap.size + 1) (recd rc .done (some c)) :: (HI s ++ (defE w.heap.size :: R))) W2 := HeapIs.unpack (H := loopE (w.heap.size + 1) (recd rc .done (some c)) :: HI s) hback
        have h4 := h3.putObj (i := 0) (o' := .loop { recd rc .done (some c) with state := .exhausted }) rfl
        refine ⟨some c, _, run_endLoop (h3.at (i := 0) rfl).here (by simp [recd]), ?_⟩
        have h5 : HeapIs w0 (HI s ++ (defE w.heap.size :: R)) _ := h4.drop (List.sublist_cons_self _ _)
        exact (wpIn_wide (n := 0)).2 (jump w.heap.size c s hs _ _ ⟨by simp [ha.defers], ha.size, ha.knows⟩ h5.comm)

/-! ### The ends of a function that holds such a loop -/
theorem calls_of_marks {f : FuncId} {fn : Func} {c : Code} {args : Array Value} {w : World} {Rr : Ending → World → Prop} (hf : P.funcs[f]? = some fn) (hb : fn.body = some c)
    (h : c.wp P (bodyPostM Fence.wide 0 P fn Rr) { tmps := args ++ Array.replicate (fn.ntmps - args.size) undef, defers := [] } w) : Calls P f args w Rr :=
  callsIn_wide.1 (callsIn_of_wp_marks (F := Fence.wide) (n := 0) hf hb trivial (wpIn_wide.2 h))
theorem q_marks0 {fn : Func} {Rr : Ending → World → Prop} (h : SQ [] n w0 (bodyPost P fn Rr) .ret F H) : SQ [] n w0 (bodyPostM Fence.wide 0 P fn Rr) .ret F H := fun a w ha hw => by
  obtain ⟨_, v, h1, h2⟩ := h a w ha hw
  show LeavesInM Fence.wide 0 P fn a.tmps Rr a.defers .returning w
  rw [ha.defers]
  exact ⟨v, h1, h2⟩
theorem q_marks {fn : Func} {Rr : Ending → World → Prop} {D i : Nat} (hi : H[i]? = some (defE D)) (h : SQ ds n w0 (bodyPostM Fence.wide 0 P fn Rr) .ret F (H.eraseIdx i)) : SQ (mark D :: ds) n w0 (bodyPostM Fence.wide 0 P fn Rr) .ret F H := fun a w ha hw => by
  have hd := (hw.at hi).here
  show LeavesInM Fence.wide 0 P fn a.tmps Rr a.defers .returning w
  rw [ha.defers]
  refine ⟨by simp, .inl ⟨D, _, rfl, run_takeDeferred hd, ?_⟩⟩
  have h2 := hw.putObj (i := i) (o' := .deferred none) hi
  have h3 : HeapIs w0 (H.eraseIdx i) (w.putObj D (.deferred none)) := h2.drop (by
    have e : H.eraseIdx i = (H.set i (objE D (.deferred none))).eraseIdx i := by
      apply List.ext_getElem?
      intro j
      simp only [List.getElem?_eraseIdx, List.getElem?_set]
      split
      · rw [if_neg (by omega)]
      · rw [if_neg (by omega)]
    rw [e]; exact List.eraseIdx_sublist _ _)
  have h4 := h ⟨a.tmps, ds⟩ _ ⟨rfl, ha.size, ha.knows⟩ h3
  exact h4
theorem fn0R {f : FuncId} {fn : Func} {c : Code} {args : List Value} {Pre : World → Prop} {v : Value} {nt : Nat} {F0 : List (Nat × Value)} (hf : P.funcs[f]? = some fn) (hb : fn.body = some c) (hn : fn.ntmps = nt) (hle : Nat.ble args.length nt = true) (hF : F0 = (List.range args.length).zip args)
    (h : ∀ w0, Pre w0 → SC none [] P nt w0 (bodyPostM Fence.wide 0 P fn (End0 w0 v)) c F0 [base w0]) : Fn0 P f args Pre v := fun w hw => by
  refine calls_of_marks hf hb ?_
  have e : args.toArray.size = args.length := by simp
  have hle' : args.length ≤ nt := Nat.le_of_ble_eq_true hle
  have ho := ok_begin args (nt - args.length)
  rw [show args.length + (nt - args.length) = nt by omega, ← hF] at ho
  rw [hn, e]
  exact h w hw _ w ho (HeapIs.begin w)
theorem fnMR {f : FuncId} {fn : Func} {c : Code} {args : List Value} {Pre : World → Prop} {π : Type} {val : π → Value} {A : π → (Nat → Prop) → World → Prop} {nt : Nat} {F0 : List (Nat × Value)} (hf : P.funcs[f]? = some fn) (hb : fn.body = some c) (hn : fn.ntmps = nt) (hle : Nat.ble args.length nt = true) (hF : F0 = (List.range args.length).zip args)
    (h : ∀ w0, Pre w0 → SC none [] P nt w0 (bodyPostM Fence.wide 0 P fn (EndM w0 π val A)) c F0 [base w0]) : FnM P f args Pre π val A := fun w hw => by
  refine calls_of_marks hf hb ?_
  have e : args.toArray.size = args.length := by simp
  have hle' : args.length ≤ nt := Nat.le_of_ble_eq_true hle
  have ho := ok_begin args (nt - args.length)
  rw [show args.length + (nt - args.length) = nt by omega, ← hF] at ho
  rw [hn, e]
  exact h w hw _ w ho (HeapIs.begin w)
theorem fnXR {f : FuncId} {fn : Func} {c : Code} {args : List Value} {pre : List Ent} {Pr : World → Prop} {π : Type} {val : π → Value} {post : π → List Ent} {nt : Nat} {F0 : List (Nat × Value)} (hf : P.funcs[f]? = some fn) (hb : fn.body = some c) (hn : fn.ntmps = nt) (hle : Nat.ble args.length nt = true) (hF : F0 = (List.range args.length).zip args)
    (h : ∀ w0, Pr w0 → SC none [] P nt w0 (bodyPostM Fence.wide 0 P fn (EndX w0 pre π val post)) c F0 (outer w0 pre :: pre)) : FnX P f args pre Pr π val post := fun w hw hp => by
  refine calls_of_marks hf hb ?_
  have e : args.toArray.size = args.length := by simp
  have hle' : args.length ≤ nt := Nat.le_of_ble_eq_true hle
  have ho := ok_begin args (nt - args.length)
  rw [show args.length + (nt - args.length) = nt by omega, ← hF] at ho
  rw [hn, e]
  exact h w hp _ w ho hw
end
end Go.Sx

/- Shorter names of the steps that stand most often in a long walk. -/
namespace Go.Sx
open Go.RowKit
section
variable {P : Program} {n : Nat} {w0 : World} {r : Option Nat} {ds : List Deferred} {Q : Exit → Act → World → Prop} {F : List (Nat × Value)} {H : List Ent} {ops : Array Oper}
variable {ty : TypeId} {pos : String} {after : Array Edge} {rest : List Oper} {d : Nat} {v : Value} {c x y : Operand}
theorem o_mv (hx : ev F x = some v) (hn : Nat.blt d n = true) (h : SO r ds P n w0 ops Q rest ((d, v) :: F) H) : SO r ds P n w0 ops Q (⟨some d, .move x, ty, pos, after, none⟩ :: rest) F H := o_pure (p_move hx) rfl rfl hn h
theorem o_pt (hc : ev F c = some (.bool true)) (hx : ev F x = some v) (hn : Nat.blt d n = true) (h : SO r ds P n w0 ops Q rest ((d, v) :: F) H) : SO r ds P n w0 ops Q (⟨some d, .pick c x y, ty, pos, after, none⟩ :: rest) F H := o_pure (p_pick_true hc hx) rfl rfl hn h
theorem o_pf (hc : ev F c = some (.bool false)) (hy : ev F y = some v) (hn : Nat.blt d n = true) (h : SO r ds P n w0 ops Q rest ((d, v) :: F) H) : SO r ds P n w0 ops Q (⟨some d, .pick c x y, ty, pos, after, none⟩ :: rest) F H := o_pure (p_pick_false hc hy) rfl rfl hn h
end
end Go.Sx

/- How long a slice that is read is, out of its reading; laws whose arguments are not too many. -/
namespace Go.Sx
open Go.ChangeShapes Go.WideShapes Go.ChangeAt Go.RowKit
section
variable {P : Program} {H : Type} {enc : TypeId × Value → H} {w : World}
/-- so many elements are read -/
def ElemsN (d : DataW H) (n : Nat) : Prop := (∃ elems spare, d = .slice elems spare ∧ n = elems.length) ∨ n = 0
theorem rd_elems {t e : TypeId} {a : Option Addr} {len cap : Nat} {d : DataW H} {ps : List MemPlace} (hu : P.underlying t = some (.slice e)) (h : DataW.Trod enc P w 0 (fun _ => true) true t (.slice a len cap) d ps) : ElemsN d len := by
  obtain ⟨fuel, hf⟩ := h
  rcases DataW.trod_slice hu hf with ⟨h0, _⟩ | ⟨x, len', cap', elems, rest, n, _, hcs, hx, hb, hl, hm, hlen, hel, hsp, _⟩
  · simp only [Value.cells, List.cons.injEq, Value.slice.injEq, and_true] at h0
    exact .inr h0.2.1
  · simp only [Value.cells, List.cons.injEq, Value.slice.injEq, and_true] at hcs
    obtain ⟨_, rfl, rfl⟩ := hcs
    simp only [Prod.mk.injEq] at hx
    obtain ⟨rfl, _⟩ := hx
    exact .inl ⟨elems.map (·.1), rest.map (·.1), rfl, by rw [List.length_map]; exact hlen.symm⟩
end
end Go.Sx

/- Common plain functions: keys, traces, places in lists. -/
namespace Go.Sx
def idxF {α : Type} (f : α → Bool) (l : List α) : Int := if l.findIdx f < l.length then (l.findIdx f : Int) else -1
theorem idxF_found {α : Type} {f : α → Bool} {l : List α} {k : Nat} (hk : k < l.length) (hp : f l[k] = true) (hn : ∀ j (h : j < l.length), j < k → f l[j] = false) : (k : Int) = idxF f l := by
  have e : l.findIdx f = k := (List.findIdx_eq hk).2 ⟨hp, fun j hj => hn j (by omega) hj⟩
  unfold idxF; rw [e, if_pos hk]
theorem idxF_none {α : Type} {f : α → Bool} {l : List α} (hn : ∀ j (h : j < l.length), f l[j] = false) : -1 = idxF f l := by
  unfold idxF; rw [if_neg]
  intro h
  have := List.findIdx_getElem (w := h)
  rw [hn _ h] at this; cases this
theorem idxF_cases {α : Type} (f : α → Bool) (l : List α) : (∃ k, ∃ h : k < l.length, idxF f l = (k : Int) ∧ f l[k] = true ∧ ∀ j (h : j < l.length), j < k → f l[j] = false) ∨ (idxF f l = -1 ∧ ∀ x ∈ l, f x = false) := by
  by_cases h : l.findIdx f < l.length
  · refine .inl ⟨l.findIdx f, h, by unfold idxF; rw [if_pos h], List.findIdx_getElem (w := h), fun j hj hlt => ?_⟩
    have := List.not_of_lt_findIdx hlt
    simpa using this
  · refine .inr ⟨by unfold idxF; rw [if_neg h], fun x hx => ?_⟩
    have h2 : l.findIdx f = l.length := by have := List.findIdx_le_length (p := f) (xs := l); omega
    exact List.findIdx_eq_length.1 h2 x hx
theorem idxF_lt {α : Type} (f : α → Bool) (l : List α) : idxF f l < l.length ∧ -1 ≤ idxF f l := by
  rcases idxF_cases f l with ⟨k, h, e, _⟩ | ⟨e, _⟩ <;> rw [e] <;> omega
theorem any_idxF {α : Type} (f : α → Bool) (l : List α) : l.any f = decide (0 ≤ idxF f l) := by
  rcases idxF_cases f l with ⟨k, h, e, h1, _⟩ | ⟨e, h1⟩ <;> rw [e]
  · rw [decide_eq_true (by omega)]; exact List.any_eq_true.2 ⟨_, List.getElem_mem h, h1⟩
  · rw [decide_eq_false (by omega)]; exact List.any_eq_false.2 fun x hx => by rw [h1 x hx]; simp
namespace Lru
def okKey (n : Int) : Bool := decide (0 ≤ n) && decide (n ≤ 1048576)
def okRoom (n : Int) : Bool := decide (1 ≤ n) && decide (n ≤ 40)
theorem room_ok {n : Int} (h : okRoom n = true) : 1 ≤ n ∧ n ≤ 40 := by simpa [okRoom] using h
theorem key_ok {n : Int} (h : okKey n = true) : 0 ≤ n ∧ n ≤ 1048576 := by simpa [okKey] using h
def keysGo (pre : List Int) : List Int → Int
  | [] => 0
  | k :: l => if okKey k = false then 3 else if k ∈ pre then 6 else keysGo (pre ++ [k]) l
def keys (l : List Int) : Int := keysGo [] l
def trace (l : List Int) : Int := if 200 < l.length then 2 else if l.any (fun k => !okKey k) then 3 else 0
theorem keysGo_step {l : List Int} {i : Nat} (h : i < l.length) : keysGo (l.take i) (l.drop i) = if okKey l[i] = false then 3 else if l[i] ∈ l.take i then 6 else keysGo (l.take (i + 1)) (l.drop (i + 1)) := by
  rw [List.drop_eq_getElem_cons h, keysGo, List.take_succ_eq_append_getElem h]
theorem keys_bad {l : List Int} {i : Nat} (h : i < l.length) (hI : keysGo (l.take i) (l.drop i) = keys l) (hb : okKey l[i] = false) : 3 = keys l := by rw [← hI, keysGo_step h, if_pos hb]
theorem keys_twice {l : List Int} {i : Nat} (h : i < l.length) (hI : keysGo (l.take i) (l.drop i) = keys l) (hb : okKey l[i] = true) (ht : l[i] ∈ l.take i) : 6 = keys l := by rw [← hI, keysGo_step h, if_neg (by simp [hb]), if_pos ht]
theorem keys_next {l : List Int} {i : Nat} (h : i < l.length) (hI : keysGo (l.take i) (l.drop i) = keys l) (hb : okKey l[i] = true) (ht : l[i] ∉ l.take i) : keysGo (l.take (i + 1)) (l.drop (i + 1)) = keys l := by rw [← hI, keysGo_step h, if_neg (by simp [hb]), if_neg ht]
theorem keys_end {l : List Int} {i : Nat} (h : l.length ≤ i) (hI : keysGo (l.take i) (l.drop i) = keys l) : 0 = keys l := by rw [← hI, List.drop_of_length_le h]; rfl
theorem mem_take_succ {l : List Int} {i : Nat} (h : i < l.length) (j : Int) : j ∈ l.take (i + 1) ↔ j = l[i] ∨ j ∈ l.take i := by
  rw [List.take_succ_eq_append_getElem h, List.mem_append, List.mem_singleton, or_comm]
/-- The map of what was seen. -/
def Seen {ν : Type} (m : List (Int × ν)) (l : List Int) (k : Nat) : Prop := ∀ j, (AL.get m j).isSome = true ↔ j ∈ l.take k
theorem Seen.start {ν : Type} (l : List Int) : Seen ([] : List (Int × ν)) l 0 := fun j => by simp [AL.get]
theorem Seen.next {ν : Type} {m : List (Int × ν)} {l : List Int} {k : Nat} (h : Seen m l k) (hk : k < l.length) (x : ν) : Seen (AL.set m l[k] x) l (k + 1) := fun j => by
  rw [AL.get_set, mem_take_succ hk]; split
  · simp [*]
  · simp [*, h j]
/-- Keys that are right, each once. -/
theorem keys_ok {l : List Int} : keys l = 0 ↔ (∀ k ∈ l, okKey k = true) ∧ l.Nodup := by
  have key : ∀ (l pre : List Int), keysGo pre l = 0 ↔ (∀ k ∈ l, okKey k = true) ∧ (∀ k ∈ l, k ∉ pre) ∧ l.Nodup := by
    intro l
    induction l with
    | nil => intro pre; simp [keysGo]
    | cons k l ih =>
      intro pre
      rw [keysGo]
      by_cases h1 : okKey k = false
      · rw [if_pos h1]; simp [h1]
      · rw [if_neg h1]
        by_cases h2 : k ∈ pre
        · rw [if_pos h2]; simp [h2]
        · rw [if_neg h2, ih]
          have h1' : okKey k = true := by simpa using h1
          simp only [List.mem_cons, List.mem_append, List.nodup_cons, List.mem_nil_iff]
          constructor
          · rintro ⟨a, b, c⟩
            refine ⟨by rintro j (rfl | hj); exact h1'; exact a j hj, by rintro j (rfl | hj); exact h2; exact fun hp => b j hj (.inl hp), fun hk => b k hk (.inr (.inl rfl)), c⟩
          · rintro ⟨a, b, c, d⟩
            refine ⟨fun j hj => a j (.inr hj), fun j hj hp => ?_, d⟩
            rcases hp with hp | hp | hp
            · exact b j (.inr hj) hp
            · exact c (hp ▸ hj)
            · cases hp
  rw [keys, key]; simp
theorem trace_ok {l : List Int} : trace l = 0 ↔ l.length ≤ 200 ∧ ∀ k ∈ l, okKey k = true := by
  unfold trace
  split
  · constructor
    · intro h; cases h
    · intro h; omega
  · split
    · rename_i h
      constructor
      · intro h; cases h
      · rintro ⟨_, h2⟩
        obtain ⟨x, hx, hb⟩ := List.any_eq_true.1 h
        rw [h2 x hx] at hb; cases hb
    · rename_i h1 h
      refine ⟨fun _ => ⟨by omega, fun k hk => ?_⟩, fun _ => rfl⟩
      have := List.any_eq_false.1 (Bool.not_eq_true _ ▸ h) k hk
      simpa using this
theorem trace_many {l : List Int} (h : 200 < (l.length : Int)) : trace l = 2 := if_pos (by omega)
theorem trace_bad {l : List Int} (h : (l.length : Int) ≤ 200) (h2 : l.any (fun k => !okKey k) = true) : trace l = 3 := by
  unfold trace; rw [if_neg (by omega), if_pos h2]
theorem trace_fine {l : List Int} (h : (l.length : Int) ≤ 200) (h2 : l.any (fun k => !okKey k) = false) : trace l = 0 := by
  unfold trace; rw [if_neg (by omega), if_neg (by simp [h2])]
end Lru
namespace Ref
def between (n a b : Int) : Bool := decide (a ≤ n) && decide (n ≤ b)
def sameInts (a b : List Int) : Bool := decide (a = b)
def hasInt (l : List Int) (n : Int) : Bool := decide (n ∈ l)
end Ref
end Go.Sx

/- Boxes that are read by a call that changes other entries; a slice that is cut behind its end. -/
namespace Go.Sx
open Go.RowKit
section
variable {α : Type} {P : Program} {n : Nat} {w0 : World} {r : Option Nat} {ds : List Deferred} {F : List (Nat × Value)} {H : List Ent}
variable {T : Ty α} {S : Nat → Prop} {a : Option Addr} {cap : Nat} {L M : List α}
variable {ty : TypeId} {pos : String} {after : Array Edge} {guard : Option (Nat × Bool)} {dst : Option Tmp} {x y : Operand}
theorem rbox_outer {i B : Nat} {pre : List Ent} {cs : List Value} {U : TypeId} (hi : H[i]? = some (outer w0 pre)) (h : (box B cs U).A w0 ∧ (outer w0 pre).S B) : ∀ w, HeapIs w0 H w → (box B cs U).A w := fun w hw => by
  have g := (hw.at hi).here
  show w.heap[B]? = _
  rw [g B h.2.1 h.2.2]; exact h.1
/-- what lies in one entry lies outside of others -/
theorem outX {i : Nat} {e : Ent} {pre : List Ent} {js : List Nat} {B : Nat} (hi : H[i]? = some e) (hj : i ∉ js) (hp : js.map (H[·]?) = pre.map some) (h : e.S B) : ∀ w, HeapIs w0 H w → (outer w pre).S B := fun w hw => by
  have g := hw.at hi
  refine ⟨g.bound B h, fun ⟨f, hf, hfb⟩ => ?_⟩
  obtain ⟨k, hk, rfl⟩ := List.mem_iff_getElem.1 hf
  have hlen : js.length = pre.length := by simpa using congrArg List.length hp
  have h3 := congrArg (·[k]?) hp
  simp only [List.getElem?_map, List.getElem?_eq_getElem hk, List.getElem?_eq_getElem (show k < js.length by omega), Option.map_some, Option.some.injEq] at h3
  obtain ⟨q1, q2⟩ := List.getElem?_eq_some_iff.1 hi
  obtain ⟨r1, r2⟩ := List.getElem?_eq_some_iff.1 h3
  have hne : i ≠ js[k] := fun e => hj (e ▸ List.getElem_mem _)
  have hap := List.pairwise_iff_getElem.1 hw.apart
  rcases Nat.lt_or_gt_of_ne hne with hl | hl
  · exact hap _ _ q1 r1 hl B (by rw [q2]; exact h) (by rw [r2]; exact hfb)
  · exact hap _ _ r1 q1 hl B (by rw [r2]; exact hfb) (by rw [q2]; exact h)
theorem boxX {i B : Nat} {cs : List Value} {U : TypeId} {pre : List Ent} {js : List Nat} (hi : H[i]? = some (box B cs U)) (hj : i ∉ js) (hp : js.map (H[·]?) = pre.map some) : ∀ w, HeapIs w0 H w → (box B cs U).A w ∧ (outer w pre).S B := fun w hw =>
  ⟨(hw.at hi).here, outX hi hj hp rfl w hw⟩
theorem boxX_base {i B : Nat} {cs : List Value} {U : TypeId} {pre : List Ent} {js : List Nat} (hi : H[i]? = some (base w0)) (hj : i ∉ js) (hp : js.map (H[·]?) = pre.map some) (h : (box B cs U).A w0) : ∀ w, HeapIs w0 H w → (box B cs U).A w ∧ (outer w pre).S B := fun w hw =>
  ⟨rbox_base hi h w hw, outX hi hj hp (show B < w0.heap.size from box_lt h) w hw⟩
/-- s[l:], where s is what was cut to its first l elements -/
theorem p_sliceCut {t e : TypeId} {k : IntKind} {l : Int} {L0 : List α} (hx : ev F x = some (.slice a L0.length cap)) (hy : ev F y = some (.int k l)) (hu : P.underlying t = some (.slice e)) (hs : sizeIs P e = some T.k) (h0 : 0 ≤ l) (h1 : l ≤ (L0.length : Int)) (hc : L0.length ≤ cap) :
    Pure ds P n w0 ⟨dst, .slice t x (some y) none none, ty, pos, after, guard⟩ F H (.slice (sa a cap (L0.take l.toNat).length T.k) (L0.length - l.toNat) (cap - l.toNat)) := fun b' w' hb' hw' => by
  have hh : l = (l.toNat : Int) := by omega
  have e : (L0.take l.toNat).length = l.toNat := by rw [List.length_take]; omega
  rw [e]
  exact p_slice (P := P) (n := n) (w0 := w0) (ds := ds) (H := H) (l := l.toNat) (hi := L0.length) (m := cap) (lv := some (.int k l)) (hv := none) (mv := none) hx (by simp [hy]) rfl rfl hu hs (.inr ⟨k, by rw [← hh]⟩) (.inl ⟨rfl, rfl⟩) (.inl ⟨rfl, rfl⟩) (fun _ => rfl) (by omega) hc (Nat.le_refl _) (by simp) b' w' hb' hw'
/-- s[:h], of the same -/
theorem p_sliceKeep {t e : TypeId} {l : Int} {L0 : List α} (hx : ev F x = some (.slice a L0.length cap)) (hy : ev F y = some (.int .i64 l)) (hu : P.underlying t = some (.slice e)) (hs : sizeIs P e = some T.k) (h0 : 0 ≤ l) (h1 : l ≤ (L0.length : Int)) (hc : L0.length ≤ cap) :
    Pure ds P n w0 ⟨dst, .slice t x none (some y) none, ty, pos, after, guard⟩ F H (.slice a (L0.take l.toNat).length cap) := fun b' w' hb' hw' => by
  have e : (L0.take l.toNat).length = l.toNat := by rw [List.length_take]; omega
  rw [e]
  exact p_slice0 (P := P) (n := n) (w0 := w0) (ds := ds) (H := H) (hi := l.toNat) (hv := l) hx hy hu hs (by omega) (by omega) b' w' hb' hw'
end
/-- what is dropped by a rule: the loop of slices.DeleteFunc -/
structure DelI {α : Type} (f : α → Bool) (l m : List α) (i j : Int) : Prop where
  i0 : 0 ≤ i
  ij : i < j
  jl : j ≤ (l.length : Int)
  len : m.length = l.length
  kept : m.take i.toNat = (l.take j.toNat).filter fun x => !f x
  rest : m.drop j.toNat = l.drop j.toNat
theorem filter_none {α : Type} {f : α → Bool} {l : List α} (h : ∀ j (hj : j < l.length), f l[j] = false) : l.filter (fun x => !f x) = l := by
  rw [List.filter_eq_self]; intro x hx
  obtain ⟨j, hj, rfl⟩ := List.getElem_of_mem hx
  simp [h j hj]
theorem DelI.start {α : Type} {f : α → Bool} {l : List α} (h : 0 ≤ idxF f l) : DelI f l l (idxF f l) (idxF f l + 1) := by
  have hlt := idxF_lt f l
  rcases idxF_cases f l with ⟨k, hk, e, h1, h2⟩ | ⟨e, _⟩
  · rw [e] at h hlt ⊢
    refine ⟨h, by omega, by omega, rfl, ?_, rfl⟩
    rw [show ((k : Int)).toNat = k by omega, show ((k : Int) + 1).toNat = k + 1 by omega, List.take_succ_eq_append_getElem hk, List.filter_append]
    have e2 : (l.take k).filter (fun x => !f x) = l.take k := filter_none fun j hj => by
      rw [List.length_take] at hj
      rw [List.getElem_take]; exact h2 j (by omega) (by omega)
    rw [e2]; simp [h1]
  · omega
theorem DelI.le {α : Type} {f : α → Bool} {l m : List α} {i j : Int} (h : DelI f l m i j) : i ≤ (m.length : Int) := by have := h.len; have := h.jl; have := h.ij; omega
theorem DelI.at_ {α : Type} {f : α → Bool} {l m : List α} {i j : Int} (h : DelI f l m i j) {k : Nat} (hk : k = j.toNat) (hm : k < m.length) (hl : k < l.length) : m[k] = l[k] := by
  subst hk
  have h1 := congrArg (·[0]?) h.rest
  simp only [List.getElem?_drop, Nat.add_zero, List.getElem?_eq_getElem hm, List.getElem?_eq_getElem hl, Option.some.injEq] at h1
  exact h1
theorem DelI.drop_ {α : Type} {f : α → Bool} {l m : List α} {i j : Int} (h : DelI f l m i j) (hk : j.toNat < m.length) (hf : f m[j.toNat] = true) : DelI f l m i (j + 1) := by
  have hl : j.toNat < l.length := by have := h.len; omega
  have hi0 := h.i0; have hij := h.ij
  have e := h.at_ rfl hk hl
  refine ⟨hi0, by omega, by omega, h.len, ?_, ?_⟩
  · rw [h.kept, show (j + 1).toNat = j.toNat + 1 by omega, List.take_succ_eq_append_getElem hl, List.filter_append, ← e]; simp [hf]
  · rw [show (j + 1).toNat = j.toNat + 1 by omega]
    have := congrArg (List.drop 1) h.rest
    simpa [List.drop_drop] using this
theorem DelI.keep {α : Type} {f : α → Bool} {l m : List α} {i j : Int} (h : DelI f l m i j) (hk : j.toNat < m.length) (hf : f m[j.toNat] = false) : DelI f l (m.set i.toNat m[j.toNat]) (i + 1) (j + 1) := by
  have hl : j.toNat < l.length := by have := h.len; omega
  have hi0 := h.i0; have hij := h.ij
  have e := h.at_ rfl hk hl
  refine ⟨by omega, by omega, by omega, by rw [List.length_set]; exact h.len, ?_, ?_⟩
  · rw [show (i + 1).toNat = i.toNat + 1 by omega, show (j + 1).toNat = j.toNat + 1 by omega, List.take_succ_eq_append_getElem (by rw [List.length_set]; omega), List.getElem_set_self, List.take_set_of_le (by omega), h.kept, List.take_succ_eq_append_getElem hl, List.filter_append, ← e]
    simp [hf]
  · rw [show (j + 1).toNat = j.toNat + 1 by omega, List.drop_set_of_lt (by omega)]
    have := congrArg (List.drop 1) h.rest
    simpa [List.drop_drop] using this
theorem DelI.done {α : Type} {f : α → Bool} {l m : List α} {i j : Int} (h : DelI f l m i j) (hj : (m.length : Int) ≤ j) : m.take i.toNat = l.filter fun x => !f x := by
  have := h.len; have := h.jl
  rw [h.kept, List.take_of_length_le (by omega)]
end Go.Sx

/- Slices of slices: lists that are only read; a place of an array. -/
namespace Go.Sx
open Go.RowKit
/-- a slice of numbers as an element of a list of slices -/
structure Hdr where
  a : Option Addr
  cap : Nat
  L : List Int
instance : Inhabited Hdr := ⟨⟨none, 0, []⟩⟩
def tHdr : Ty Hdr := ⟨1, fun h => [.slice h.a h.L.length h.cap], fun _ => rfl⟩
def catH (l : List Hdr) : List Int := (l.map Hdr.L).flatten
theorem catH_step {l : List Hdr} {k : Nat} (h : k < l.length) : catH (l.take (k + 1)) = catH (l.take k) ++ l[k].L := by
  unfold catH; rw [List.take_succ_eq_append_getElem h, List.map_append, List.flatten_append]; simp only [List.map_cons, List.map_nil, List.flatten_cons, List.flatten_nil, List.append_nil]
theorem catH_le (l : List Hdr) (k : Nat) : (catH (l.take k)).length ≤ (catH l).length := by
  have h : catH l = catH (l.take k) ++ catH (l.drop k) := by
    unfold catH
    rw [← List.flatten_append, ← List.map_append, List.take_append_drop]
  rw [h, List.length_append]; omega
theorem catH_all {l : List Hdr} {k : Nat} (h : l.length ≤ k) : catH (l.take k) = catH l := by rw [List.take_of_length_le h]
section
variable {α : Type} {P : Program} {n : Nat} {w0 : World} {r : Option Nat} {ds : List Deferred} {F : List (Nat × Value)} {H : List Ent}
variable {T : Ty α}
variable {ty : TypeId} {pos : String} {after : Array Edge} {guard : Option (Nat × Bool)} {dst : Option Tmp} {x y : Operand}
theorem rd_rows2 {h1 h2 : Hdr} (r1 : ∀ w, HeapIs w0 H w → Rd tInt w h1.a h1.cap h1.L) (r2 : ∀ w, HeapIs w0 H w → Rd tInt w h2.a h2.cap h2.L) {k : Nat} (hk : k < [h1, h2].length) : ∀ w, HeapIs w0 H w → Rd tInt w ([h1, h2][k]).a ([h1, h2][k]).cap ([h1, h2][k]).L := by
  match k, hk with
  | 0, _ => exact r1
  | 1, _ => exact r2
theorem mem_rows2 {h1 h2 : Hdr} {k : Nat} (hk : k < [h1, h2].length) : ([h1, h2][k]).L = h1.L ∨ ([h1, h2][k]).L = h2.L := by
  match k, hk with
  | 0, _ => exact .inl rfl
  | 1, _ => exact .inr rfl
theorem rd_entOr {S : Nat → Prop} {A : World → Prop} {a : Option Addr} {cap : Nat} {L : List α} {φ : Prop} {i : Nat} (hi : H[i]? = some ⟨S, A⟩) (h : ∀ w, A w → SlR T S w a cap L ∨ φ) (hφ : φ → ∀ w, HeapIs w0 H w → Rd T w a cap L) : ∀ w, HeapIs w0 H w → Rd T w a cap L := fun w hw => by
  have g := hw.at hi
  rcases h w g.here with h1 | h1
  · exact h1.mono fun b hb => g.bound b hb
  · exact hφ h1 w hw
theorem p_indexAddrA {t e : TypeId} {len B j j' k i : Nat} {kk : IntKind} (hx : ev F x = some (.pointer (some ⟨B, j, none⟩))) (hy : ev F y = some (.int kk (i : Int))) (hu : P.underlying t = some (.array len e)) (hs : sizeIs P e = some k) (hi : i < len) (hj : j' = j + i * k) :
    Pure ds P n w0 ⟨dst, .indexAddr t x y, ty, pos, after, guard⟩ F H (.pointer (some ⟨B, j', none⟩)) := fun b w hb hw => by
  subst hj
  have e1 : Addr.add ⟨B, j, none⟩ (i * k) = ⟨B, j + i * k, none⟩ := by unfold Addr.add; split <;> simp_all
  have h1 : (i : Int) < (len : Int) := by omega
  simp [execOp, hb.eval hx, hb.eval hy, Instr.indexAt, Instr.sureAddr, asIntOf, run_underlying hu, run_sizeOf hs, h1, e1]
  intro h2; omega
end
end Go.Sx

/- Maps that are handed in, keys that are dropped, and a range over a map, in whatever order. -/
namespace Go.Sx
open Go.RowKit
namespace AL
variable {κ ν : Type} [DecidableEq κ]
theorem get_none {m : List (κ × ν)} {k : κ} (h : k ∉ m.map (·.1)) : get m k = none := by
  induction m with
  | nil => rfl
  | cons p m ih =>
    obtain ⟨a, v⟩ := p
    simp only [List.map_cons, List.mem_cons, not_or] at h
    simp only [get, if_neg h.1, ih h.2]
theorem get_mem {m : List (κ × ν)} (hn : (m.map (·.1)).Nodup) {k : κ} {v : ν} : get m k = some v ↔ (k, v) ∈ m := by
  induction m with
  | nil => simp [get]
  | cons p m ih =>
    obtain ⟨a, u⟩ := p
    rw [List.map_cons, List.nodup_cons] at hn
    simp only [get, List.mem_cons, Prod.mk.injEq]
    split
    · rename_i e; subst e
      constructor
      · intro h; left; exact ⟨rfl, (Option.some.inj h).symm⟩
      · rintro (⟨_, h⟩ | h)
        · rw [h]
        · exact absurd (List.mem_map.2 ⟨_, h, rfl⟩) hn.1
    · rename_i e
      rw [ih hn.2]
      constructor
      · exact .inr
      · rintro (⟨h, _⟩ | h)
        · exact absurd h e
        · exact h
theorem get_isSome {m : List (κ × ν)} {k : κ} : (get m k).isSome = true ↔ k ∈ m.map (·.1) := by
  induction m with
  | nil => simp [get]
  | cons p m ih =>
    obtain ⟨a, v⟩ := p
    simp only [get, List.map_cons, List.mem_cons]
    split
    · simp [*]
    · rw [ih]; simp [*]
theorem set_keys (m : List (κ × ν)) (k : κ) (x : ν) : (set m k x).map (·.1) = if k ∈ m.map (·.1) then m.map (·.1) else m.map (·.1) ++ [k] := by
  induction m with
  | nil => simp [set]
  | cons p m ih =>
    obtain ⟨a, v⟩ := p
    simp only [set]
    split
    · rename_i e; subst e; simp
    · rename_i e
      simp only [List.map_cons, ih, List.mem_cons]
      split <;> simp [*]
theorem del_keys (m : List (κ × ν)) (k : κ) : (del m k).map (·.1) = (m.map (·.1)).erase k := by
  induction m with
  | nil => rfl
  | cons p m ih =>
    obtain ⟨a, v⟩ := p
    simp only [del]
    split
    · rename_i e; subst e; simp
    · rename_i e
      rw [List.map_cons, List.map_cons, List.erase_cons, if_neg (by simpa using fun h => e h.symm), ih]
theorem get_del {m : List (κ × ν)} (hn : (m.map (·.1)).Nodup) (k j : κ) : get (del m k) j = if j = k then none else get m j := by
  induction m with
  | nil => simp [del, get]
  | cons p m ih =>
    obtain ⟨a, v⟩ := p
    rw [List.map_cons, List.nodup_cons] at hn
    simp only [del]
    split
    · rename_i e; subst e
      split
      · rename_i e2; subst e2; exact get_none hn.1
      · rename_i e2; simp [get, e2]
    · rename_i e
      simp only [get, ih hn.2]
      split
      · rename_i e2; subst e2; rw [if_neg (fun h => e h.symm)]
      · rfl
end AL
section
variable {κ ν : Type} [DecidableEq κ]
variable {P : Program} {n : Nat} {w0 : World} {r : Option Nat} {ds : List Deferred} {Q : Exit → Act → World → Prop} {F F' : List (Nat × Value)} {H H' : List Ent} {ops : Array Oper}
variable {ty : TypeId} {pos : String} {after : Array Edge} {guard : Option (Nat × Bool)} {dst : Option Tmp} {rest : List Oper} {d : Nat} {x y : Operand}
variable {K : KTy κ} {ve : ν → Value} {m : List (κ × ν)}
theorem erase_map (K : KTy κ) (ve : ν → Value) (k : κ) : ∀ (es : List MapEntry) (m : List (κ × ν)) (j : Nat), es.map (fun e => (e.key, e.val)) = m.map (fun p => (K.enc p.1, ve p.2)) → ∀ i u, AL.idx m k j = some (i, u) → j ≤ i ∧
    (es.eraseIdx (i - j)).map (fun e => (e.key, e.val)) = (AL.del m k).map (fun p => (K.enc p.1, ve p.2)) ∧ i - j < es.length
  | [], [], _, _, _, _, h => by simp [AL.idx] at h
  | e :: es, (a, x) :: m, j, h, i, u, hi => by
    simp only [List.map_cons, List.cons.injEq, Prod.mk.injEq] at h
    obtain ⟨⟨h1, h2⟩, h3⟩ := h
    simp only [AL.idx] at hi
    split at hi
    · rename_i e1
      simp only [Option.some.injEq, Prod.mk.injEq] at hi
      obtain ⟨rfl, rfl⟩ := hi
      subst e1
      simp [AL.del, h3]
    · rename_i e1
      obtain ⟨g1, g2, g3⟩ := erase_map K ve k es m (j + 1) h3 i u hi
      refine ⟨by omega, ?_, ?_⟩
      · rw [show i - j = (i - (j + 1)) + 1 by omega]; simp [AL.del, e1, h1, h2, g2]
      · simp only [List.length_cons]; omega
theorem del_none (k : κ) : ∀ (m : List (κ × ν)) (j : Nat), AL.idx m k j = none → AL.del m k = m
  | [], _, _ => rfl
  | (a, x) :: m, j, h => by
    simp only [AL.idx] at h
    split at h
    · cases h
    · rename_i e; simp [AL.del, e, del_none k m (j + 1) h]
theorem o_delete {t kt vt : TypeId} {ats : Array TypeId} {i B : Nat} {k : κ} (hx : ev F x = some (.map (some B))) (hy : ev F y = some (K.enc k)) (hi : H[i]? = some (mapE K ve B m)) (hat : ats[0]? = some t) (hu : P.underlying t = some (.map kt vt)) (hk : P.underlying kt = some K.kd)
    (h : SO r ds P n w0 ops Q rest F (H.set i (mapE K ve B (AL.del m k)))) : SO r ds P n w0 ops Q (⟨none, .call { callee := .builtin .delete, args := #[x, y], argTypes := ats }, ty, pos, after, none⟩ :: rest) F H := fun a w ha hw =>
  wpL_plain rfl (fun _ h => by cases h) fun KK hK => by
    obtain ⟨es, c, h1, h2, hbn⟩ := (hw.at hi).here
    have hf := run_findKey (P := P) (K := K) (ve := ve) (m := m) (k := k) (es := es.toList) (w := w) hk h2
    have key : ∀ es' c', es'.toList.map (fun e => (e.key, e.val)) = (AL.del m k).map (fun p => (K.enc p.1, ve p.2)) ∧ Born es'.toList c' → HeapIs w0 (H.set i (mapE K ve B (AL.del m k))) { w with heap := w.heap.setIfInBounds B (.map es' c') } := fun es' c' he => by
      refine hw.change hi ⟨rfl, rfl, rfl⟩ (by simp) (fun b hb => .inl hb) (fun b _ hb => ?_) (fun _ _ ha hA => MapIs.agree ha hA) ⟨es', c', ?_, he⟩
      · show (w.heap.setIfInBounds B _)[b]? = _
        exact Array.getElem?_setIfInBounds_ne (fun e => hb e.symm)
      · have hlt : B < w.heap.size := (hw.at hi).bound B rfl
        show (w.heap.setIfInBounds B _)[B]? = _
        simp [hlt]
    have hset : ∀ o, (setObj B o).run P w = .ok () { w with heap := w.heap.setIfInBounds B o } := fun o => by simp [setObj, Sem.run, h1]
    have hrun : ∃ es' c', (Builtin.delete_ ats ty #[.map (some B), K.enc k]).run P w = .ok (.tuple #[]) { w with heap := w.heap.setIfInBounds B (.map es' c') } ∧ es'.toList.map (fun e => (e.key, e.val)) = (AL.del m k).map (fun p => (K.enc p.1, ve p.2)) ∧ Born es'.toList c' := by
      cases hidx : AL.idx m k 0 with
      | none =>
        rw [hidx] at hf
        refine ⟨es, c, ?_, by rw [del_none k m 0 hidx]; exact h2, hbn⟩
        simp [Builtin.delete_, hat, run_bind, run_underlying hu, run_getMap h1, run_checkKey hk, hf, hset, run_pure]
      | some p =>
        rw [hidx] at hf
        obtain ⟨q, u⟩ := p
        obtain ⟨_, g2, g3⟩ := erase_map K ve k es.toList m 0 h2 q u hidx
        refine ⟨es.eraseIdxIfInBounds q, c, ?_, by simpa using g2, ?_⟩
        · simp [Builtin.delete_, hat, run_bind, run_underlying hu, run_getMap h1, run_checkKey hk, hf, hset, run_pure]
        · refine hbn.sub ?_
          rw [Array.toList_eraseIdxIfInBounds]
          exact List.eraseIdx_sublist _ _
    obtain ⟨es', c', h3, h4⟩ := hrun
    have h5 : (execOp a.eval ⟨none, .call { callee := .builtin .delete, args := #[x, y], argTypes := ats }, ty, pos, after, none⟩).run P w = .ok (.value (.tuple #[])) { w with heap := w.heap.setIfInBounds B (.map es' c') } := by
      simp [execOp, resolve, invoke, builtin, ha.eval hx, ha.eval hy, h3]
    unfold Oper.wp
    rw [h5]
    exact hK _ _ (h _ _ ha (key es' c' h4))
/-! ### Maps of the caller -/
theorem map_below {B : Nat} {w w' : World} (hb : Below w.heap.size w w') (h : MapIs K ve B m w) : MapIs K ve B m w' := by
  obtain ⟨es, c, h1, h2⟩ := h
  have hlt : B < w.heap.size := by
    rcases Nat.lt_or_ge B w.heap.size with h | h
    · exact h
    · rw [Array.getElem?_eq_none h] at h1; cases h1
  exact ⟨es, c, (hb.block B hlt).trans h1, h2⟩
theorem rmap_base {i B : Nat} (hi : H[i]? = some (base w0)) (h : MapIs K ve B m w0) : ∀ w, HeapIs w0 H w → MapIs K ve B m w := fun _ hw => map_below (hw.toBelow hi) h
theorem rmap_own {i B : Nat} (hi : H[i]? = some (mapE K ve B m)) : ∀ w, HeapIs w0 H w → MapIs K ve B m w := fun _ hw => (hw.at hi).here
theorem blk_base {i B : Nat} {o : Obj} (hi : H[i]? = some (base w0)) (h : w0.heap[B]? = some o) : ∀ w, HeapIs w0 H w → w.heap[B]? = some o := fun w hw => by
  have hlt : B < w0.heap.size := by
    rcases Nat.lt_or_ge B w0.heap.size with h2 | h2
    · exact h2
    · rw [Array.getElem?_eq_none h2] at h; cases h
  exact ((hw.toBelow hi).block B hlt).trans h
theorem p_lookup2R {t kt vt : TypeId} {B : Nat} {k : κ} {dflt : ν} (hx : ev F x = some (.map (some B))) (hy : ev F y = some (K.enc k)) (hr : ∀ w, HeapIs w0 H w → MapIs K ve B m w) (hu : P.underlying t = some (.map kt vt)) (hk : P.underlying kt = some K.kd) (hz : zeroV P vt = some (ve dflt)) :
    Pure ds P n w0 ⟨dst, .lookup t x y true, ty, pos, after, guard⟩ F H (.tuple #[ve ((AL.get m k).getD dflt), .bool (AL.get m k).isSome]) := fun a w ha hw => by
  obtain ⟨es, c, h1, h2, _⟩ := hr w hw
  have hf := run_findKey (P := P) (K := K) (ve := ve) (m := m) (k := k) (es := es.toList) (w := w) hk h2
  rw [AL.get_idx m k 0]
  cases hidx : AL.idx m k 0 with
  | none => rw [hidx] at hf; simp [execOp, ha.eval hx, ha.eval hy, Instr.lookup, run_bind, run_underlying hu, run_getMap h1, run_checkKey hk, hf, run_zeroValue hz]
  | some p => rw [hidx] at hf; simp [execOp, ha.eval hx, ha.eval hy, Instr.lookup, run_bind, run_underlying hu, run_getMap h1, run_checkKey hk, hf]
theorem p_lookup1R {t kt vt : TypeId} {B : Nat} {k : κ} {dflt : ν} (hx : ev F x = some (.map (some B))) (hy : ev F y = some (K.enc k)) (hr : ∀ w, HeapIs w0 H w → MapIs K ve B m w) (hu : P.underlying t = some (.map kt vt)) (hk : P.underlying kt = some K.kd) (hz : zeroV P vt = some (ve dflt)) :
    Pure ds P n w0 ⟨dst, .lookup t x y false, ty, pos, after, guard⟩ F H (ve ((AL.get m k).getD dflt)) := fun a w ha hw => by
  obtain ⟨es, c, h1, h2, _⟩ := hr w hw
  have hf := run_findKey (P := P) (K := K) (ve := ve) (m := m) (k := k) (es := es.toList) (w := w) hk h2
  rw [AL.get_idx m k 0]
  cases hidx : AL.idx m k 0 with
  | none => rw [hidx] at hf; simp [execOp, ha.eval hx, ha.eval hy, Instr.lookup, run_bind, run_underlying hu, run_getMap h1, run_checkKey hk, hf, run_zeroValue hz]
  | some p => rw [hidx] at hf; simp [execOp, ha.eval hx, ha.eval hy, Instr.lookup, run_bind, run_underlying hu, run_getMap h1, run_checkKey hk, hf]
theorem p_len_mapR {t kt vt : TypeId} {ats : Array TypeId} {B : Nat} (hx : ev F x = some (.map (some B))) (hr : ∀ w, HeapIs w0 H w → MapIs K ve B m w) (ha' : ats[0]? = some t) (hu : P.underlying t = some (.map kt vt)) :
    Pure ds P n w0 ⟨dst, .call { callee := .builtin .len, args := #[x], argTypes := ats }, ty, pos, after, guard⟩ F H (.int .i64 (m.length : Int)) := fun a w ha hw => by
  obtain ⟨es, c, h1, h2, _⟩ := hr w hw
  have hl : es.size = m.length := by have := congrArg List.length h2; simpa using this
  simp [execOp, resolve, invoke, builtin, Builtin.len_, ha.eval hx, ha', run_bind, run_underlying hu, run_getMap h1, goInt, hl]
/-! ### The iterator -/
/-- What the iterator in block B, over the map in block Bm, has yet to hand out; cur: what it handed out last. -/
structure ItSt (K : KTy κ) (ve : ν → Value) (es : Array MapEntry) (c since c0 : Nat) (seen : Array Nat) (left : List (κ × ν)) (cur : Option (κ × ν)) : Prop where
  old : ∀ e ∈ es.toList, e.born < since
  le : since ≤ c0
  lec : since ≤ c
  rest : (leftOf es seen).toList.map (fun e => (e.key, e.val)) = left.map (fun p => (K.enc p.1, ve p.2))
  last : ∀ p, cur = some p → ∃ (e : MapEntry) (s0 : Array Nat), e ∈ es.toList ∧ seen = s0.push e.born ∧ c0 = c ∧ e.key = K.enc p.1 ∧ e.val = ve p.2
def iterE (K : KTy κ) (ve : ν → Value) (B Bm : Nat) (es : Array MapEntry) (c : Nat) (left : List (κ × ν)) (cur : Option (κ × ν)) : Ent :=
  ⟨fun b => b = B, fun w => ∃ since seen c0, w.heap[B]? = some (.mapIter (some Bm) since seen c0) ∧ ItSt K ve es c since c0 seen left cur⟩
theorem iterE_st {B Bm : Nat} {es : Array MapEntry} {c : Nat} {left : List (κ × ν)} {cur : Option (κ × ν)} : ∀ w1 w2, Agree (fun b => b = B) w1 w2 → (iterE K ve B Bm es c left cur).A w1 → (iterE K ve B Bm es c left cur).A w2 := fun w1 w2 ha ⟨since, seen, c0, h1, h2⟩ => ⟨since, seen, c0, (ha B rfl).trans h1, h2⟩
theorem o_range {t kt vt : TypeId} {Bm : Nat} {es : Array MapEntry} {c : Nat} (hx : ev F x = some (.map (some Bm))) (hb : ∀ w, HeapIs w0 H w → w.heap[Bm]? = some (.map es c)) (hm : es.toList.map (fun e => (e.key, e.val)) = m.map (fun p => (K.enc p.1, ve p.2))) (hn : Born es.toList c) (hu : P.underlying t = some (.map kt vt)) (hd : Nat.blt d n = true)
    (h : ∀ B, SO r ds P n w0 ops Q rest ((d, .pointer (some ⟨B, 0, none⟩)) :: F) (iterE K ve B Bm es c m none :: H)) : SO r ds P n w0 ops Q (⟨some d, .range t x, ty, pos, after, none⟩ :: rest) F H := fun a w ha hw =>
  wpL_plain rfl (fun _ h => by cases h) fun KK hK => by
    have hrun : (execOp a.eval ⟨some d, .range t x, ty, pos, after, none⟩).run P w = .ok (.value (.pointer (some ⟨w.heap.size, 0, none⟩))) (w.alloc (.mapIter (some Bm) c #[] c)) := by
      simp [execOp, ha.eval hx, run_range_map w t kt vt Bm es c hu (hb w hw)]
    unfold Oper.wp
    rw [hrun]
    refine hK _ _ (h w.heap.size _ _ (ha.put hd _) (hw.push _ iterE_st ⟨c, #[], c, by simp, ?_⟩))
    refine ⟨hn.2, Nat.le_refl _, Nat.le_refl _, ?_, fun p hp => by cases hp⟩
    have : leftOf es #[] = es := by unfold leftOf; simp
    rw [this]; exact hm
theorem left_push {es : Array MapEntry} {seen : Array Nat} {left : List (κ × ν)} (hn : (es.toList.map (·.born)).Nodup) (hl : (leftOf es seen).toList.map (fun e => (e.key, e.val)) = left.map (fun p => (K.enc p.1, ve p.2))) {e : MapEntry} (he : e ∈ (leftOf es seen).toList) :
    ∃ p A C, left = A ++ p :: C ∧ e.key = K.enc p.1 ∧ e.val = ve p.2 ∧ (leftOf es (seen.push e.born)).toList.map (fun e => (e.key, e.val)) = (A ++ C).map (fun p => (K.enc p.1, ve p.2)) := by
  have h0 : (leftOf es (seen.push e.born)).toList = (leftOf es seen).toList.filter (fun x => !(x.born == e.born)) := by
    unfold leftOf
    simp only [Array.toList_filter, List.filter_filter]
    congr 1; funext x
    simp only [Array.contains_push, Bool.not_or]
    rw [Bool.and_comm]
  have hsub : ((leftOf es seen).toList.map (·.born)).Nodup := by
    unfold leftOf; rw [Array.toList_filter]
    exact (List.filter_sublist.map _).nodup hn
  rw [h0]
  generalize (leftOf es seen).toList = L at *
  obtain ⟨i, hi, rfl⟩ := List.getElem_of_mem he
  have hlen : L.length = left.length := by have := congrArg List.length hl; simpa using this
  have hi' : i < left.length := by omega
  have hsplit : L = L.take i ++ L[i] :: L.drop (i + 1) := by rw [← List.drop_eq_getElem_cons hi, List.take_append_drop]
  have hfil : L.filter (fun x => !(x.born == L[i].born)) = L.take i ++ L.drop (i + 1) := by
    have hp := List.pairwise_iff_getElem.1 hsub
    have hsp : L.filter (fun x => !(x.born == L[i].born)) = (L.take i).filter (fun x => !(x.born == L[i].born)) ++ (L[i] :: L.drop (i + 1)).filter (fun x => !(x.born == L[i].born)) := by
      rw [← List.filter_append, ← hsplit]
    rw [hsp, List.filter_cons]
    simp only [beq_self_eq_true, Bool.not_true, Bool.false_eq_true, if_false]
    congr 1
    · rw [List.filter_eq_self]; intro y hy
      obtain ⟨j, hj, rfl⟩ := List.getElem_of_mem hy
      rw [List.length_take] at hj
      rw [List.getElem_take]
      have := hp j i (by simp; omega) (by simpa using hi) (by omega)
      simpa using this
    · rw [List.filter_eq_self]; intro y hy
      obtain ⟨j, hj, rfl⟩ := List.getElem_of_mem hy
      rw [List.length_drop] at hj
      rw [List.getElem_drop]
      have := hp i (i + 1 + j) (by simpa using hi) (by simp; omega) (by omega)
      simp only [List.getElem_map] at this
      simpa using fun h => this h.symm
  have hkv : ((L[i]).key, (L[i]).val) = (K.enc (left[i]).1, ve (left[i]).2) := by
    have h1 : (L.map (fun e => (e.key, e.val)))[i]? = (left.map (fun p => (K.enc p.1, ve p.2)))[i]? := by rw [hl]
    simpa [List.getElem?_map, List.getElem?_eq_getElem hi, List.getElem?_eq_getElem hi'] using h1
  refine ⟨left[i], left.take i, left.drop (i + 1), by rw [← List.drop_eq_getElem_cons hi', List.take_append_drop], (Prod.mk.inj hkv).1, (Prod.mk.inj hkv).2, ?_⟩
  rw [hfil, List.map_append, List.map_append, List.map_take, List.map_drop, hl, List.map_take, List.map_drop]
theorem o_next {i B Bm : Nat} {es : Array MapEntry} {c : Nat} {left : List (κ × ν)} {cur : Option (κ × ν)} (hx : ev F x = some (.pointer (some ⟨B, 0, none⟩))) (hi : H[i]? = some (iterE K ve B Bm es c left cur)) (hb : ∀ w, HeapIs w0 H w → w.heap[Bm]? = some (.map es c)) (hn : Born es.toList c) (hd : Nat.blt d n = true)
    (h1 : left = [] → SO r ds P n w0 ops Q rest ((d, .tuple #[.bool false]) :: F) H)
    (h2 : ∀ p A C, left = A ++ p :: C → SO r ds P n w0 ops Q rest ((d, .tuple #[.bool true, K.enc p.1, ve p.2]) :: F) (H.set i (iterE K ve B Bm es c (A ++ C) (some p)))) :
    SO r ds P n w0 ops Q (⟨some d, .next x false, ty, pos, after, none⟩ :: rest) F H := fun a w ha hw =>
  wpL_plain rfl (fun _ h => by cases h) fun KK hK => by
    obtain ⟨since, seen, c0, g1, g2⟩ := (hw.at hi).here
    rcases run_next_at (P := P) w ty B Bm since c0 seen es c g1 (hb w hw) g2.old g2.le with ⟨q1, q2⟩ | ⟨e, he, w1, hw1, q2⟩
    · have hrun : (execOp a.eval ⟨some d, .next x false, ty, pos, after, none⟩).run P w = .ok (.value (.tuple #[.bool false])) w := by
        simp [execOp, ha.eval hx, q2]
      have hl : left = [] := by
        have h3 := congrArg List.length g2.rest
        simp only [List.length_map, Array.length_toList, q1] at h3
        exact List.length_eq_zero_iff.1 h3.symm
      unfold Oper.wp
      rw [hrun]
      exact hK _ _ (h1 hl _ _ (ha.put hd _) hw)
    · have hrun : (execOp a.eval ⟨some d, .next x false, ty, pos, after, none⟩).run P w = .ok (.value (.tuple #[.bool true, e.key, e.val])) (ChangeMaps.setBlock w1 B (.mapIter (some Bm) since (seen.push e.born) c)) := by
        simp [execOp, ha.eval hx, q2]
      obtain ⟨p, A, C, e1, e2, e3, e4⟩ := left_push (K := K) (ve := ve) hn.1 g2.rest he
      unfold Oper.wp
      rw [hrun, e2, e3]
      have hw' : HeapIs w0 H w1 := by rcases hw1 with rfl | rfl; exact hw; exact hw.drew _
      refine hK _ _ (h2 p A C e1 _ _ (ha.put hd _) ?_)
      have hlt : B < w1.heap.size := (hw'.at hi).bound B rfl
      refine hw'.change hi ⟨rfl, rfl, rfl⟩ (by simp [ChangeMaps.setBlock]) (fun b hb => .inl hb) (fun b _ hb => ?_) iterE_st ⟨since, seen.push e.born, c, ?_, g2.old, g2.lec, g2.lec, e4, fun p' hp' => ?_⟩
      · show (w1.heap.setIfInBounds B _)[b]? = _
        exact Array.getElem?_setIfInBounds_ne (fun e => hb e.symm)
      · show (w1.heap.setIfInBounds B _)[B]? = _
        simp [hlt]
      · obtain rfl := Option.some.inj hp'
        exact ⟨e, seen, by unfold leftOf at he; rw [Array.toList_filter] at he; exact (List.mem_filter.1 he).1, rfl, rfl, e2, e3⟩
theorem p_entry {i B Bm : Nat} {es : Array MapEntry} {c : Nat} {left : List (κ × ν)} {p : κ × ν} (hx : ev F x = some (.pointer (some ⟨B, 0, none⟩))) (hi : H[i]? = some (iterE K ve B Bm es c left (some p))) (hb : ∀ w, HeapIs w0 H w → w.heap[Bm]? = some (.map es c)) (hn : Born es.toList c) :
    Pure ds P n w0 ⟨dst, .entry x, ty, pos, after, guard⟩ F H (.tuple #[K.enc p.1, ve p.2]) := fun a w ha hw => by
  obtain ⟨since, seen, c0, g1, g2⟩ := (hw.at hi).here
  obtain ⟨e, s0, he, hs, hc, hk, hv⟩ := g2.last p rfl
  subst hs; subst hc
  rw [← hk, ← hv]
  simp [execOp, ha.eval hx, run_entry_at (P := P) w B Bm since s0 es c0 e g1 (hb w hw) he hn.1]
end
theorem it_fin {φ : Nat → Ent → Prop} {k N : Nat} {e : Ent} (h : φ k e) (hk : k = N) : φ N e := hk ▸ h
end Go.Sx

/- Strings as keys of maps and as elements; structs with strings compared; function values called in a drawn region; the greater of two numbers without sign. -/
namespace Go.Sx
open Go.RowKit
def tStr : Ty ByteArray := ⟨1, fun s => [.string s], fun _ => rfl⟩
instance : Inhabited ByteArray := ⟨ByteArray.empty⟩
theorem ba_beq (a b : ByteArray) : (a == b) = decide (a = b) := by
  rw [Bool.eq_iff_iff, decide_eq_true_eq]
  cases a with
  | mk x =>
  cases b with
  | mk y =>
  show (x == y) = true ↔ _
  rw [beq_iff_eq, ByteArray.mk.injEq]
instance : LawfulBEq ByteArray where
  eq_of_beq h := by rw [ba_beq] at h; exact of_decide_eq_true h
  rfl := by intro a; rw [ba_beq]; exact decide_eq_true rfl
def kStr : KTy ByteArray := ⟨fun s => .string s, .string, fun a b => by
    simp only [Instr.sameNow, ba_beq], fun a => by simp [Instr.sameBits, ba_beq], .inr rfl⟩
def mxU (a b : UInt64) : UInt64 := if a < b then b else a
section
variable {P : Program} {n : Nat} {w0 : World} {r : Option Nat} {ds : List Deferred} {Q : Exit → Act → World → Prop} {F F' : List (Nat × Value)} {H H' : List Ent} {ops : Array Oper}
variable {ty : TypeId} {pos : String} {after : Array Edge} {guard : Option (Nat × Bool)} {dst : Option Tmp} {rest : List Oper} {d : Nat} {x y : Operand}
theorem w_call0V {f : FuncId} {g : Operand} {args : Array Operand} {ats : Array TypeId} {vs caps : List Value} {Pre : World → Prop} {v : Value} (hg : ev F g = some (.func (.func f) #[] caps.toArray)) (hv : evs F args.toList = some vs) (hf : Fn0 P f (vs ++ caps) Pre v) (hP : HasFn P f) (hpre : ∀ w, HeapIs w0 H w → Pre w) (hn : Nat.blt d n = true)
    (h : SW ds P n w0 ops Q rest ((d, v) :: F) H) : SW ds P n w0 ops Q (⟨some d, .call { callee := .value g, args := args, argTypes := ats }, ty, pos, after, none⟩ :: rest) F H := fun a ha =>
  wpQuiet_step fun K hK => by
    obtain ⟨fn, c, h1, h2, h3⟩ := hP
    rw [if_pos (by simp [Region.wanted])]
    refine ⟨v, fun w hw => ?_, hK _ (h _ (ha.put hn v))⟩
    unfold Oper.quietAt
    rw [run_callV ha hg hv h1 h2 h3]
    exact ⟨rfl, (hf w (hpre w hw)).mono fun e w' ⟨he, hb⟩ => ⟨he, hw.below hb⟩⟩
theorem pu_max {ats : Array TypeId} {p q : UInt64} (hx : ev F x = some (.int .u64 (p.toNat : Int))) (hy : ev F y = some (.int .u64 (q.toNat : Int))) : Pure ds P n w0 ⟨dst, .call { callee := .builtin .max, args := #[x, y], argTypes := ats }, ty, pos, after, guard⟩ F H (.int .u64 ((mxU p q).toNat : Int)) := fun b w hb _ => by
  have e : (if (p.toNat : Int) < (q.toNat : Int) then (q.toNat : Int) else (p.toNat : Int)) = ((mxU p q).toNat : Int) := by
    unfold mxU
    by_cases h : p < q
    · have h2 := UInt64.lt_iff_toNat_lt.1 h
      rw [if_pos h, if_pos (by omega)]
    · have h2 : ¬ p.toNat < q.toNat := fun e => h (UInt64.lt_iff_toNat_lt.2 e)
      rw [if_neg h, if_neg (by omega)]
  simp [execOp, resolve, invoke, builtin, Builtin.max_, Builtin.max2, hb.eval hx, hb.eval hy]
  simpa using e
theorem FE.str {xs ys : Array Value} {f : Field} {fs : List Field} {a b : ByteArray} {r : Bool} (hn : f.name ≠ "_") (hu : P.underlying f.type = some .string) (hx : xs[f.offset]? = some (.string a)) (hy : ys[f.offset]? = some (.string b))
    (h : FE P xs ys fs r) : FE P xs ys (f :: fs) (decide (a = b) && r) :=
  FE.cons hn (by simp [Program.plainKey, hu]) hx hy (fun d w => by
    simp [Op.equalIn, run_underlying hu, ba_beq]) h
theorem FE.str1 {xs ys : Array Value} {f : Field} {a b : ByteArray} (hn : f.name ≠ "_") (hu : P.underlying f.type = some .string) (hx : xs[f.offset]? = some (.string a)) (hy : ys[f.offset]? = some (.string b)) : FE P xs ys [f] (decide (a = b)) := by
  have := FE.str hn hu hx hy (FE.nil (P := P) (xs := xs) (ys := ys))
  simpa using this
end
theorem boxX_outer {w0 : World} {H : List Ent} {i B : Nat} {cs : List Value} {U : TypeId} {pre0 pre : List Ent} {js : List Nat} (hi : H[i]? = some (outer w0 pre0)) (hj : i ∉ js) (hp : js.map (H[·]?) = pre.map some) (h : (box B cs U).A w0 ∧ (outer w0 pre0).S B) : ∀ w, HeapIs w0 H w → (box B cs U).A w ∧ (outer w pre).S B :=
  fun w hw => ⟨rbox_outer hi h w hw, outX hi hj hp h.2 w hw⟩
def SzStr (s : ByteArray) : Prop := s.size ≤ 9223372036854775807
theorem elTy_str {P : Program} {e : TypeId} (hu : P.underlying e = some .string) (hc : P.cellsOf e = 1) : ElTy P e tStr SzStr :=
  ⟨hc, by decide, fun _ _ _ _ _ h => by obtain ⟨z, rfl, _, hw⟩ := DataW.trod_string hu h; exact ⟨z, rfl, hw⟩⟩
end Go.Sx

/- Shorter steps: what an operand holds is read off the frame. -/
namespace Go.Sx
open Go.RowKit
section
variable {P : Program} {n : Nat} {w0 : World} {r : Option Nat} {ds : List Deferred} {Q : Exit → Act → World → Prop} {F : List (Nat × Value)} {H Hr : List Ent} {ops : Array Oper}
variable {ty : TypeId} {pos : String} {after : Array Edge} {rest : List Oper} {d : Nat} {v : Value} {c x y : Operand}
theorem o_as (hx : ev F x = some v) (hn : Nat.blt d n = true) (h : SO r ds P n w0 ops Q rest ((d, v) :: F) H) : SO r ds P n w0 ops Q (⟨some d, .assign x, ty, pos, after, none⟩ :: rest) F H := o_pure (p_assign hx) rfl rfl hn h
theorem o_ex {i : Nat} {vs : List Value} (hx : ev F x = some (.tuple vs.toArray)) (hv : vs[i]? = some v) (hn : Nat.blt d n = true) (h : SO r ds P n w0 ops Q rest ((d, v) :: F) H) : SO r ds P n w0 ops Q (⟨some d, .extract x i, ty, pos, after, none⟩ :: rest) F H := o_pure (p_extract hx hv) rfl rfl hn h
theorem w_mv (hx : ev F x = some v) (hn : Nat.blt d n = true) (h : SW ds P n w0 ops Q rest ((d, v) :: F) H) : SW ds P n w0 ops Q (⟨some d, .move x, ty, pos, after, none⟩ :: rest) F H := w_pure (p_move hx) rfl rfl hn h
theorem w_pt (hc : ev F c = some (.bool true)) (hx : ev F x = some v) (hn : Nat.blt d n = true) (h : SW ds P n w0 ops Q rest ((d, v) :: F) H) : SW ds P n w0 ops Q (⟨some d, .pick c x y, ty, pos, after, none⟩ :: rest) F H := w_pure (p_pick_true hc hx) rfl rfl hn h
theorem w_pf (hc : ev F c = some (.bool false)) (hy : ev F y = some v) (hn : Nat.blt d n = true) (h : SW ds P n w0 ops Q rest ((d, v) :: F) H) : SW ds P n w0 ops Q (⟨some d, .pick c x y, ty, pos, after, none⟩ :: rest) F H := w_pure (p_pick_false hc hy) rfl rfl hn h
variable {fuel : Nat} {listed : Array Bool}
theorem h_tk {i : Nat} {o : Oper} {ls : Array Bool} (hi : ops[i]? = some o) (hp : Pure ds P n w0 o F Hr v) (hsub : ∀ w, HeapIs w0 H w → HeapIs w0 Hr w) (k : SH ds P n w0 ops Q Hr fuel ls ((d, v) :: F) H)
    (hs : Region.noSelect ops = true := by kernel_rfl) (hf : Region.free .any ops listed i = true := by kernel_rfl) (hr : (Region.ready .any ops listed).contains i = true := by kernel_rfl) (hQ : ∀ c a w, Q (.panic c) (a.put o.dst v) w → Q (.panic c) a w := by exact fun _ _ _ h => h)
    (hg : o.guard = none := by rfl) (hd : o.dst = some d := by rfl) (hn : Nat.blt d n = true := by rfl) (hls : ls = listed.setIfInBounds i true := by rfl) : SH ds P n w0 ops Q Hr (fuel + 1) listed F H := h_take hi hs hf hr hQ hp hg hd hn hsub hls k
theorem h_t0 {i : Nat} {o : Oper} {ls : Array Bool} (hi : ops[i]? = some o) (hp : Pure ds P n w0 o F H v) (k : SH ds P n w0 ops Q H fuel ls ((d, v) :: F) H)
    (hs : Region.noSelect ops = true := by kernel_rfl) (hf : Region.free .any ops listed i = true := by kernel_rfl) (hr : (Region.ready .any ops listed).contains i = true := by kernel_rfl) (hQ : ∀ c a w, Q (.panic c) (a.put o.dst v) w → Q (.panic c) a w := by exact fun _ _ _ h => h)
    (hg : o.guard = none := by rfl) (hd : o.dst = some d := by rfl) (hn : Nat.blt d n = true := by rfl) (hls : ls = listed.setIfInBounds i true := by rfl) : SH ds P n w0 ops Q H (fuel + 1) listed F H := h_take hi hs hf hr hQ hp hg hd hn (fun _ h => h) hls k
end
end Go.Sx
namespace Go.Sx
open Go.RowKit
abbrev T1 : Bool := true
abbrev F0 : Bool := false
abbrev Vi (z : Int) : Value := .int .i64 z
section
variable {P : Program} {n : Nat} {w0 : World} {r : Option Nat} {ds : List Deferred} {Q : Exit → Act → World → Prop} {F F' : List (Nat × Value)} {H Hr : List Ent} {ops : Array Oper}
theorem lj {α : Type _} {a : α} {l1 l2 : List α} (h : List.Sublist l1 l2) : List.Sublist (a :: l1) (a :: l2) := List.Sublist.cons_cons a h
theorem lz {α : Type _} {a : α} {l1 l2 : List α} (h : List.Sublist l1 l2) : List.Sublist l1 (a :: l2) := List.Sublist.cons a h
theorem ln {α : Type _} : List.Sublist ([] : List α) [] := List.Sublist.slnil
theorem lr {α : Type _} {l : List α} : List.Sublist l l := List.Sublist.refl l
theorem dp (h : Hr.Sublist H) : ∀ w, HeapIs w0 H w → HeapIs w0 Hr w := fun _ hw => HeapIs.drop hw h
theorem pk {H H' : List Ent} (is : List Nat) (hn : is.Nodup := by decide) (hH : is.map (H[·]?) = H'.map some := by rfl) : ∀ w, HeapIs w0 H w → HeapIs w0 H' w := fun _ hw => HeapIs.pick hw is hn hH
theorem sr {s : Nat} {v : Value} (h : Sub F F') (h1 : lk F s = some v := by rfl) : Sub F ((s, v) :: F') := Sub.cons h1 h
theorem o_p {o : Oper} {d : Nat} {v : Value} {rest : List Oper} (hp : Pure ds P n w0 o F H v) (h : SO r ds P n w0 ops Q rest ((d, v) :: F) H) (hg : o.guard = none := by rfl) (hd : o.dst = some d := by rfl) (hn : Nat.blt d n = true := by rfl) : SO r ds P n w0 ops Q (o :: rest) F H := o_pure hp hg hd hn h
theorem w_p {o : Oper} {d : Nat} {v : Value} {rest : List Oper} (hp : Pure ds P n w0 o F H v) (h : SW ds P n w0 ops Q rest ((d, v) :: F) H) (hg : o.guard = none := by rfl) (hd : o.dst = some d := by rfl) (hn : Nat.blt d n = true := by rfl) : SW ds P n w0 ops Q (o :: rest) F H := w_pure hp hg hd hn h
end
end Go.Sx

/- Regions in functions that range over functions: nothing panics. -/
namespace Go.Sx
open Go
def NoPanic (K : Act → World → Prop) (Q : Exit → Act → World → Prop) : Exit → Act → World → Prop
  | .normal, a, w => K a w
  | .panic _, _, _ => False
  | .exit i, a, w => Q (.exit i) a w
  | .goto i, a, w => Q (.goto i) a w
  | .ret, a, w => Q .ret a w
  | .outgrown, a, w => Q .outgrown a w
section
variable {P : Program} {n : Nat} {w0 : World} {r : Option Nat} {ds : List Deferred} {Q : Exit → Act → World → Prop} {F : List (Nat × Value)} {H : List Ent}
/-- What is known behind c, where c does not panic. -/
theorem c_cutN {c : Code} {G : Type} (FE : G → List (Nat × Value)) (HE : G → List Ent) (hr_ : ∀ K : Act → World → Prop, (∀ g a w, Ok n ds (FE g) a → HeapIs w0 (HE g) w → K a w) → SC r ds P n w0 (NoPanic K Q) c F H) (k : ∀ g, SQ ds n w0 Q .normal (FE g) (HE g)) : SC r ds P n w0 Q c F H := fun a w ha hw =>
  wpC_mono (fun e a' w' h => by
    cases e with
    | normal => obtain ⟨g, h1, h2⟩ := h; exact k g a' w' h1 h2
    | panic c => exact h.elim
    | _ => exact h) (hr_ (fun a' w' => ∃ g, Ok n ds (FE g) a' ∧ HeapIs w0 (HE g) w') (fun g a' w' h1 h2 => ⟨g, h1, h2⟩) a w ha hw)
theorem q_kontN {G : Type} {FE : G → List (Nat × Value)} {HE : G → List Ent} {K : Act → World → Prop} (hK : ∀ g a w, Ok n ds (FE g) a → HeapIs w0 (HE g) w → K a w) (g : G) (hF : Sub F (FE g)) (hH : ∀ w, HeapIs w0 H w → HeapIs w0 (HE g) w) : SQ ds n w0 (NoPanic K Q) .normal F H :=
  fun _ w ha hw => hK g _ w (ha.sub hF) (hH w hw)
end
end Go.Sx
namespace Go.Sx
open Go
theorem p_eqv {P : Program} {n : Nat} {w0 : World} {ds : List Deferred} {o : Oper} {F : List (Nat × Value)} {H : List Ent} {u v : Value} (e : u = v) (h : Pure ds P n w0 o F H u) : Pure ds P n w0 o F H v := e ▸ h
end Go.Sx
