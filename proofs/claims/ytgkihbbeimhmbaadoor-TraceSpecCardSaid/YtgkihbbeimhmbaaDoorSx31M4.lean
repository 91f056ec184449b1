/- Slices of slices: what is read, what is owned. -/
import Derived.Test.YtgkihbbeimhmbaaDoorSx12M17
import Derived.Laws.BytesString
import Derived.Laws.Strings2
import Derived.Laws.Slices
import Derived.HandedShaped
import Derived.Lay
import Derived.LaidOnce
import Derived.SevenTiedAt
import Derived.Shelf.Vars
import Derived.Lib.LaidTab
import Derived.Lib.LaidU8
namespace Go.Sx
open Go.RowKit
/-- where the rows of a slice of slices lie, and its capacity -/
structure NC where
  n : Nat
  ra : Nat → Option Addr
  rc : Nat → Nat
def nc0 : NC := ⟨0, fun _ => none, fun _ => 0⟩
def ncz (m : Nat) : NC := ⟨m, fun _ => none, fun _ => 0⟩
def NC.put (c : NC) (r : Nat) (a : Option Addr) (k : Nat) : NC := ⟨c.n, fun i => if i = r then a else c.ra i, fun i => if i = r then k else c.rc i⟩
def NC.push (c : NC) (m r : Nat) (a : Option Addr) (k : Nat) : NC := ⟨m, fun i => if i = r then a else c.ra i, fun i => if i = r then k else c.rc i⟩
theorem NC.put_n (c : NC) (r : Nat) (a : Option Addr) (k : Nat) : (c.put r a k).n = c.n := rfl
structure HdE where
  a : Option Addr
  len : Nat
  cap : Nat
instance : Inhabited HdE := ⟨⟨none, 0, 0⟩⟩
def tHdE : Ty HdE := ⟨1, fun h => [.slice h.a h.len h.cap], fun _ => rfl⟩
section
variable {α : Type}
def hds (c : NC) (LL : List (List α)) : List HdE := (List.range LL.length).map fun i => ⟨c.ra i, (LL.getD i []).length, c.rc i⟩
theorem hds_len (c : NC) (LL : List (List α)) : (hds c LL).length = LL.length := by simp [hds]
theorem hds_get {c : NC} {LL : List (List α)} {i : Nat} (h : i < (hds c LL).length) : (hds c LL)[i] = ⟨c.ra i, (LL.getD i []).length, c.rc i⟩ := by simp [hds]
theorem hds_ext {l : List HdE} {c : NC} {LL : List (List α)} (hl : l.length = LL.length) (h : ∀ i (hi : i < l.length), l[i] = ⟨c.ra i, (LL.getD i []).length, c.rc i⟩) : l = hds c LL :=
  List.ext_getElem (by rw [hl, hds_len]) fun i h1 h2 => by rw [h i h1, hds_get]

def SlRN (T : Ty α) (S : Nat → Prop) (w : World) (a : Option Addr) (c : NC) (LL : List (List α)) : Prop :=
  LL.length ≤ c.n ∧ LL.length ≤ 140737488355328 ∧ SlR tHdE S w a c.n (hds c LL) ∧ ∀ i, i < LL.length → SlR T S w (c.ra i) (c.rc i) (LL.getD i [])
def RdN (T : Ty α) (w : World) (a : Option Addr) (c : NC) (LL : List (List α)) : Prop := SlRN T (fun b => b < w.heap.size) w a c LL
def RowsO (T : Ty α) (Sx : Nat → Prop) (Ss : Nat → Nat → Prop) (w : World) (c : NC) (LL : List (List α)) (X : Nat → Prop) : Prop :=
  (∀ i, i < LL.length → ¬ X i → SlO T (Ss i) w (c.ra i) (c.rc i) (LL.getD i []) ∧ ∀ b, Ss i b → Sx b) ∧ ∀ i j, i < LL.length → j < LL.length → ¬ X i → ¬ X j → i ≠ j → Disj (Ss i) (Ss j)
/-- a slice of slices that is owned with its rows, but for those of X -/
def SlOX (T : Ty α) (S : Nat → Prop) (w : World) (a : Option Addr) (c : NC) (LL : List (List α)) (X : Nat → Prop) : Prop :=
  LL.length ≤ c.n ∧ LL.length ≤ 140737488355328 ∧ ∃ S0 Ss, (∀ b, S0 b → S b) ∧ SlO tHdE S0 w a c.n (hds c LL) ∧ RowsO T (fun b => S b ∧ ¬ S0 b) Ss w c LL X
def SlON (T : Ty α) (S : Nat → Prop) (w : World) (a : Option Addr) (c : NC) (LL : List (List α)) : Prop := SlOX T S w a c LL (fun _ => False)
def ownX (T : Ty α) (S : Nat → Prop) (a : Option Addr) (c : NC) (LL : List (List α)) (X : Nat → Prop) : Ent := ⟨S, fun w => SlOX T S w a c LL X⟩
def ownN (T : Ty α) (S : Nat → Prop) (a : Option Addr) (c : NC) (LL : List (List α)) : Ent := ⟨S, fun w => SlON T S w a c LL⟩
def rowsE (T : Ty α) (Sx : Nat → Prop) (Ss : Nat → Nat → Prop) (c : NC) (LL : List (List α)) (X : Nat → Prop) : Ent := ⟨Sx, fun w => RowsO T Sx Ss w c LL X⟩
section
variable {T : Ty α} {S S' : Nat → Prop} {w w' : World} {a : Option Addr} {c : NC} {LL : List (List α)} {X : Nat → Prop} {Sx : Nat → Prop} {Ss : Nat → Nat → Prop}
theorem RowsO.agree (ha : Agree Sx w w') (h : RowsO T Sx Ss w c LL X) : RowsO T Sx Ss w' c LL X :=
  ⟨fun i hi hx => ⟨SlO.agree (fun b hb => ha b ((h.1 i hi hx).2 b hb)) (h.1 i hi hx).1, (h.1 i hi hx).2⟩, h.2⟩
theorem SlOX.agree (ha : Agree S w w') (h : SlOX T S w a c LL X) : SlOX T S w' a c LL X := by
  obtain ⟨h1, h2, S0, Ss, h3, h4, h5⟩ := h
  exact ⟨h1, h2, S0, Ss, h3, SlO.agree (fun b hb => ha b (h3 b hb)) h4, h5.agree fun b hb => ha b hb.1⟩
theorem SlON.agree (ha : Agree S w w') (h : SlON T S w a c LL) : SlON T S w' a c LL := SlOX.agree ha h
theorem SlRN.agree (ha : Agree S w w') (h : SlRN T S w a c LL) : SlRN T S w' a c LL := ⟨h.1, h.2.1, SlR.agree ha h.2.2.1, fun i hi => SlR.agree ha (h.2.2.2 i hi)⟩
theorem SlRN.mono (hS : ∀ b, S b → S' b) (h : SlRN T S w a c LL) : SlRN T S' w a c LL := ⟨h.1, h.2.1, h.2.2.1.mono hS, fun i hi => (h.2.2.2 i hi).mono hS⟩
theorem SlON.toR (h : SlON T S w a c LL) : SlRN T S w a c LL := by
  obtain ⟨h1, h2, S0, Ss, h3, h4, h5⟩ := h
  exact ⟨h1, h2, (SlO.toR h4).mono h3, fun i hi => (SlO.toR (h5.1 i hi (fun h => h)).1).mono fun b hb => ((h5.1 i hi (fun h => h)).2 b hb).1⟩
theorem SlON.nil (T : Ty α) (w : World) : SlON T (fun _ => False) w none nc0 ([] : List (List α)) :=
  ⟨Nat.zero_le _, Nat.zero_le _, fun _ => False, fun _ _ => False, fun _ h => h, SlO.nil tHdE w, fun i hi => absurd hi (Nat.not_lt_zero i), fun i _ hi => absurd hi (Nat.not_lt_zero i)⟩
theorem SlRN.nil (T : Ty α) (S : Nat → Prop) (w : World) : SlRN T S w none nc0 ([] : List (List α)) := (SlON.nil T w).toR.mono fun _ h => h.elim
theorem RdN.nil (T : Ty α) (w : World) : RdN T w none nc0 ([] : List (List α)) := SlRN.nil T _ w
theorem RdN.below (h : RdN T w a c LL) (hb : ∀ b, b < w.heap.size → w'.heap[b]? = w.heap[b]?) (hs : w.heap.size ≤ w'.heap.size) : RdN T w' a c LL :=
  (SlRN.agree (fun b hb' => hb b hb') h).mono fun b hb' => Nat.lt_of_lt_of_le hb' hs
end
section
variable {P : Program} {n : Nat} {w0 : World} {r : Option Nat} {ds : List Deferred} {Q : Exit → Act → World → Prop} {F F' : List (Nat × Value)} {H H' R : List Ent} {ops : Array Oper}
variable {ty : TypeId} {pos : String} {after : Array Edge} {guard : Option (Nat × Bool)} {dst : Option Tmp} {rest : List Oper} {d : Nat} {x y : Operand}
variable {T : Ty α} {a : Option Addr} {c : NC} {LL : List (List α)} {S : Nat → Prop} {X : Nat → Prop}
theorem rd_ownN {i : Nat} (hi : H[i]? = some (ownN T S a c LL)) : ∀ w, HeapIs w0 H w → RdN T w a c LL := fun _ hw =>
  (SlON.toR (hw.at hi).here).mono (hw.at hi).bound
theorem rd_baseN {i : Nat} (hi : H[i]? = some (base w0)) (h : RdN T w0 a c LL) : ∀ w, HeapIs w0 H w → RdN T w a c LL := fun _ hw =>
  h.below (fun b hb => (hw.at hi).here b hb) hw.size
theorem rd_nilN : ∀ w, HeapIs w0 H w → RdN T w none nc0 ([] : List (List α)) := fun w _ => RdN.nil T w
theorem rd_entN {i : Nat} {A : World → Prop} (hi : H[i]? = some ⟨S, A⟩) (h : ∀ w, A w → SlRN T S w a c LL) : ∀ w, HeapIs w0 H w → RdN T w a c LL := fun w hw =>
  (h w (hw.at hi).here).mono (hw.at hi).bound
theorem rd_outerN {i : Nat} {pre : List Ent} (hi : H[i]? = some (outer w0 pre)) (h : SlRN T (outer w0 pre).S w0 a c LL) : ∀ w, HeapIs w0 H w → RdN T w a c LL := fun w hw => by
  have g := hw.at hi
  exact (SlRN.agree (w := w0) (w' := w) (fun b hb => g.here b hb.1 hb.2) h).mono fun b hb => Nat.lt_of_lt_of_le hb.1 hw.size
theorem rd_rowN {i : Nat} (h : ∀ w, HeapIs w0 H w → RdN T w a c LL) (hi : i < LL.length) : ∀ w, HeapIs w0 H w → Rd T w (c.ra i) (c.rc i) (LL.getD i []) := fun w hw => (h w hw).2.2.2 i hi
theorem rd_hdN (h : ∀ w, HeapIs w0 H w → RdN T w a c LL) : ∀ w, HeapIs w0 H w → Rd tHdE w a c.n (hds c LL) := fun w hw => (h w hw).2.2.1
theorem rdXN {i : Nat} {e : Ent} {pre : List Ent} {js : List Nat} (hi : H[i]? = some e) (hj : i ∉ js) (hp : js.map (H[·]?) = pre.map some) (h : ∀ w, e.A w → SlRN T e.S w a c LL) : ∀ w, HeapIs w0 H w → SlRN T (outer w pre).S w a c LL := fun w hw => by
  have g := h w (hw.at hi).here
  exact ⟨g.1, g.2.1, rdX hi hj hp (fun w hA => (h w hA).2.2.1) w hw, fun k hk => rdX hi hj hp (fun w hA => (h w hA).2.2.2 k hk) w hw⟩
theorem slR_baseN {w : World} (h : RdN T w0 a c LL) (hA : (base w0).A w) : SlRN T (base w0).S w a c LL := SlRN.agree (fun b hb => hA b hb) h
theorem slR_outerN {w : World} {pre : List Ent} (h : SlRN T (outer w0 pre).S w0 a c LL) (hA : (outer w0 pre).A w) : SlRN T (outer w0 pre).S w a c LL := SlRN.agree (fun b hb => hA b hb.1 hb.2) h
theorem p_indexAddrN {t e : TypeId} {k : IntKind} {i : Int} (hx : ev F x = some (.slice a LL.length c.n)) (hy : ev F y = some (.int k i)) (hr : ∀ w, HeapIs w0 H w → RdN T w a c LL) (hu : P.underlying t = some (.slice e)) (hs : sizeIs P e = some 1)
    (h0 : 0 ≤ i) (h1 : i < (LL.length : Int)) : Pure ds P n w0 ⟨dst, .indexAddr t x y, ty, pos, after, guard⟩ F H (.pointer (some (ea a (i.toNat * tHdE.k)))) :=
  p_indexAddr (T := tHdE) (L := hds c LL) (by rw [hds_len]; exact hx) hy (rd_hdN hr) hu hs h0 (by rw [hds_len]; exact h1)
theorem p_loadN {t : TypeId} {i : Nat} (hx : ev F x = some (.pointer (some (ea a (i * tHdE.k))))) (hr : ∀ w, HeapIs w0 H w → RdN T w a c LL) (hi : i < LL.length) (ht : shp P t = some none) :
    Pure ds P n w0 ⟨dst, .load t x, ty, pos, after, guard⟩ F H (.slice (c.ra i) (LL.getD i []).length (c.rc i)) :=
  p_loadE1 (T := tHdE) (L := hds c LL) (i := i) hx (rd_hdN hr) (by rw [hds_len]; exact hi) ht (by rw [hds_get]; rfl)
theorem own_lenN {w : World} {i : Nat} (hw : HeapIs w0 H w) (hi : H[i]? = some (ownN T S a c LL)) : LL.length ≤ c.n ∧ LL.length ≤ 140737488355328 := by
  have g : SlON T S w a c LL := (hw.at hi).here
  exact ⟨g.1, g.2.1⟩
theorem rdN_lens {w : World} (h : RdN T w a c LL) (i : Nat) : (LL.getD i []).length ≤ 140737488355328 := by
  by_cases hi : i < LL.length
  · exact (h.2.2.2 i hi).2.1
  · rw [List.getD_eq_getElem?_getD, List.getElem?_eq_none (by omega)]; simp
theorem HeapIs.ownNilN {w : World} (h : HeapIs w0 H w) (T : Ty α) : HeapIs w0 (ownN T (fun _ => False) none nc0 [] :: H) w :=
  h.push0 (fun _ _ ha h => SlON.agree ha h) (SlON.nil T w)
theorem o_ownNilN (T : Ty α) {l : List Oper} (h : SO r ds P n w0 ops Q l F (ownN T (fun _ => False) none nc0 [] :: H)) : SO r ds P n w0 ops Q l F H := fun a w ha hw => h a w ha (hw.ownNilN T)
theorem c_ownNilN (T : Ty α) {c : Code} (h : SC r ds P n w0 Q c F (ownN T (fun _ => False) none nc0 [] :: H)) : SC r ds P n w0 Q c F H := fun a w ha hw => h a w ha (hw.ownNilN T)
theorem q_ownNilN (T : Ty α) {e : Exit} (h : SQ ds n w0 Q e F (ownN T (fun _ => False) none nc0 [] :: H)) : SQ ds n w0 Q e F H := fun a w ha hw => h a w ha (hw.ownNilN T)
theorem q_ownNil (T : Ty α) {e : Exit} (h : SQ ds n w0 Q e F (own T (fun _ => False) none 0 [] :: H)) : SQ ds n w0 Q e F H := fun a w ha hw => h a w ha (hw.ownNil T)
theorem o_exH {π : Type} {HH : π → List Ent} {l : List Oper} (hH : ∀ w, HeapIs w0 H w → ∃ p, HeapIs w0 (HH p) w) (h : ∀ p, SO r ds P n w0 ops Q l F (HH p)) : SO r ds P n w0 ops Q l F H := fun a w ha hw => by
  obtain ⟨p, hp⟩ := hH w hw
  exact h p a w ha hp
theorem c_exH {π : Type} {HH : π → List Ent} {l : Code} (hH : ∀ w, HeapIs w0 H w → ∃ p, HeapIs w0 (HH p) w) (h : ∀ p, SC r ds P n w0 Q l F (HH p)) : SC r ds P n w0 Q l F H := fun a w ha hw => by
  obtain ⟨p, hp⟩ := hH w hw
  exact h p a w ha hp
theorem q_exH {π : Type} {HH : π → List Ent} {e : Exit} (hH : ∀ w, HeapIs w0 H w → ∃ p, HeapIs w0 (HH p) w) (h : ∀ p, SQ ds n w0 Q e F (HH p)) : SQ ds n w0 Q e F H := fun a w ha hw => by
  obtain ⟨p, hp⟩ := hH w hw
  exact h p a w ha hp
/-- the head of a heap taken apart and put together -/
theorem HeapIs.head1 {w : World} {e e' : Ent} (h : HeapIs w0 (e :: R) w) (hS : ∀ b, e'.S b → e.S b) (hst : ∀ w1 w2, Agree e'.S w1 w2 → e'.A w1 → e'.A w2) (hA : e.A w → e'.A w) : HeapIs w0 (e' :: R) w := by
  have hp := List.pairwise_cons.1 h.apart
  have g := h.good e (by simp)
  refine ⟨h.same, h.size, fun f hf => ?_, List.pairwise_cons.2 ⟨fun f hf b hb hb' => hp.1 f hf b (hS b hb) hb', hp.2⟩⟩
  rcases List.mem_cons.1 hf with rfl | hf
  · exact ⟨hst, fun b hb => g.bound b (hS b hb), hA g.here⟩
  · exact h.good f (by simp [hf])
theorem HeapIs.head2 {w : World} {e e1 e2 : Ent} (h : HeapIs w0 (e :: R) w) (h1 : ∀ b, e1.S b → e.S b) (h2 : ∀ b, e2.S b → e.S b) (hd : Disj e1.S e2.S) (s1 : ∀ w1 w2, Agree e1.S w1 w2 → e1.A w1 → e1.A w2) (s2 : ∀ w1 w2, Agree e2.S w1 w2 → e2.A w1 → e2.A w2) (hA1 : e1.A w) (hA2 : e2.A w) : HeapIs w0 (e1 :: e2 :: R) w := by
  have hp := List.pairwise_cons.1 h.apart
  have g := h.good e (by simp)
  refine ⟨h.same, h.size, fun f hf => ?_, List.pairwise_cons.2 ⟨fun f hf b hb hb' => ?_, List.pairwise_cons.2 ⟨fun f hf b hb hb' => hp.1 f hf b (h2 b hb) hb', hp.2⟩⟩⟩
  · rcases List.mem_cons.1 hf with rfl | hf
    · exact ⟨s1, fun b hb => g.bound b (h1 b hb), hA1⟩
    · rcases List.mem_cons.1 hf with rfl | hf
      · exact ⟨s2, fun b hb => g.bound b (h2 b hb), hA2⟩
      · exact h.good f (by simp [hf])
  · rcases List.mem_cons.1 hf with rfl | hf
    · exact hd b hb hb'
    · exact hp.1 f hf b (h1 b hb) hb'
theorem HeapIs.meet2 {w : World} {e e1 e2 : Ent} (h : HeapIs w0 (e1 :: e2 :: R) w) (hS : ∀ b, e.S b → e1.S b ∨ e2.S b) (hst : ∀ w1 w2, Agree e.S w1 w2 → e.A w1 → e.A w2) (hA : Disj e1.S e2.S → e1.A w → e2.A w → e.A w) : HeapIs w0 (e :: R) w := by
  have hp := List.pairwise_cons.1 h.apart
  have hq := List.pairwise_cons.1 hp.2
  have g1 := h.good e1 (by simp)
  have g2 := h.good e2 (by simp)
  refine ⟨h.same, h.size, fun f hf => ?_, List.pairwise_cons.2 ⟨fun f hf b hb hb' => ?_, hq.2⟩⟩
  · rcases List.mem_cons.1 hf with rfl | hf
    · exact ⟨hst, fun b hb => (hS b hb).elim (g1.bound b) (g2.bound b), hA (hp.1 e2 (by simp)) g1.here g2.here⟩
    · exact h.good f (by simp [hf])
  · rcases hS b hb with h9 | h9
    · exact hp.1 f (by simp [hf]) b h9 hb'
    · exact hq.1 f hf b h9 hb'
theorem HeapIs.splitX {w : World} (h : HeapIs w0 (ownX T S a c LL X :: R) w) : ∃ p : (Nat → Prop) × (Nat → Nat → Prop), (∀ b, p.1 b → S b) ∧ LL.length ≤ c.n ∧ LL.length ≤ 140737488355328 ∧ HeapIs w0 (own tHdE p.1 a c.n (hds c LL) :: rowsE T (fun b => S b ∧ ¬ p.1 b) p.2 c LL X :: R) w := by
  obtain ⟨h1, h2, S0, Ss, h3, h4, h5⟩ : SlOX T S w a c LL X := (h.good _ (List.mem_cons_self ..)).here
  exact ⟨(S0, Ss), h3, h1, h2, h.head2 h3 (fun b hb => hb.1) (fun b hb hb' => hb'.2 hb) (fun _ _ ha hA => SlO.agree (T := tHdE) ha hA) (fun _ _ ha hA => RowsO.agree ha hA) h4 h5⟩
theorem HeapIs.joinX {w : World} {S0 Sx : Nat → Prop} {Ss : Nat → Nat → Prop} (h : HeapIs w0 (own tHdE S0 a c.n (hds c LL) :: rowsE T Sx Ss c LL X :: R) w) (hn : LL.length ≤ c.n ∧ LL.length ≤ 140737488355328) (hS : ∀ b, S b ↔ S0 b ∨ Sx b) : HeapIs w0 (ownX T S a c LL X :: R) w := by
  refine h.meet2 (fun b hb => (hS b).1 hb) (fun _ _ ha hA => SlOX.agree ha hA) fun hd h1 h2 => ?_
  refine ⟨hn.1, hn.2, S0, Ss, fun b hb => (hS b).2 (.inl hb), h1, fun i hi hx => ⟨(h2.1 i hi hx).1, fun b hb => ?_⟩, h2.2⟩
  have h9 := (h2.1 i hi hx).2 b hb
  exact ⟨(hS b).2 (.inr h9), fun h0 => hd b h0 h9⟩
theorem HeapIs.rowOut {w : World} {Sx : Nat → Prop} {Ss : Nat → Nat → Prop} {k : Nat} {X' : Nat → Prop} (h : HeapIs w0 (rowsE T Sx Ss c LL X :: R) w) (hk : k < LL.length) (hx : ¬ X k) (hX : ∀ i, ¬ X' i → ¬ X i ∧ i ≠ k) : (∀ b, Ss k b → Sx b) ∧ HeapIs w0 (own T (Ss k) (c.ra k) (c.rc k) (LL.getD k []) :: rowsE T (fun b => Sx b ∧ ¬ Ss k b) Ss c LL X' :: R) w := by
  have g : RowsO T Sx Ss w c LL X := (h.good _ (List.mem_cons_self ..)).here
  obtain ⟨g1, g2⟩ := g.1 k hk hx
  refine ⟨g2, h.head2 g2 (fun b hb => hb.1) (fun b hb hb' => hb'.2 hb) (fun _ _ ha hA => SlO.agree (T := T) ha hA) (fun _ _ ha hA => RowsO.agree ha hA) g1 ⟨fun i hi hx' => ⟨(g.1 i hi (hX i hx').1).1, fun b hb => ⟨(g.1 i hi (hX i hx').1).2 b hb, fun h9 => g.2 i k hi hk (hX i hx').1 hx (hX i hx').2 b hb h9⟩⟩, fun i j hi hj hx1 hx2 hne => g.2 i j hi hj (hX i hx1).1 (hX j hx2).1 hne⟩⟩
theorem HeapIs.rowIn {w : World} {Sx Sr Sy : Nat → Prop} {Ss : Nat → Nat → Prop} {k cp : Nat} {ra : Option Addr} {L : List α} {c' : NC} {LL' : List (List α)} {X' : Nat → Prop} (h : HeapIs w0 (own T Sr ra cp L :: rowsE T Sx Ss c LL X :: R) w)
    (h1 : c'.ra k = ra ∧ c'.rc k = cp ∧ LL'.getD k [] = L) (h2 : ∀ i, i < LL'.length → ¬ X' i → i ≠ k → i < LL.length ∧ ¬ X i ∧ c'.ra i = c.ra i ∧ c'.rc i = c.rc i ∧ LL'.getD i [] = LL.getD i []) (hS : ∀ b, Sy b ↔ Sr b ∨ Sx b) :
    HeapIs w0 (rowsE T Sy (fun i => if i = k then Sr else Ss i) c' LL' X' :: R) w := by
  refine h.meet2 (fun b hb => (hS b).1 hb) (fun _ _ ha hA => RowsO.agree ha hA) fun hd g1 g2 => ⟨fun i hi hx => ?_, fun i j hi hj hx1 hx2 hne => ?_⟩
  · by_cases e : i = k
    · subst e
      obtain ⟨q1, q2, q3⟩ := h1
      simp only [if_pos rfl, q1, q2, q3]
      exact ⟨g1, fun b hb => (hS b).2 (.inl hb)⟩
    · obtain ⟨q1, q2, q3, q4, q5⟩ := h2 i hi hx e
      simp only [if_neg e, q3, q4, q5]
      exact ⟨(g2.1 i q1 q2).1, fun b hb => (hS b).2 (.inr ((g2.1 i q1 q2).2 b hb))⟩
  · by_cases e1 : i = k
    · have e2 : j ≠ k := fun h9 => hne (e1.trans h9.symm)
      obtain ⟨q1, q2, _⟩ := h2 j hj hx2 e2
      simp only [if_pos e1, if_neg e2]
      exact fun b hb hb' => hd b hb ((g2.1 j q1 q2).2 b hb')
    · obtain ⟨q1, q2, _⟩ := h2 i hi hx1 e1
      by_cases e2 : j = k
      · simp only [if_neg e1, if_pos e2]
        exact fun b hb hb' => hd b hb' ((g2.1 i q1 q2).2 b hb)
      · obtain ⟨r1, r2, _⟩ := h2 j hj hx2 e2
        simp only [if_neg e1, if_neg e2]
        exact g2.2 i j q1 r1 q2 r2 hne
theorem getD_set_self {LL : List (List α)} {k : Nat} {L : List α} (h : k < LL.length) : (LL.set k L).getD k [] = L := by simp [List.getD_eq_getElem?_getD, h]
theorem getD_set_ne {LL : List (List α)} {k i : Nat} {L : List α} (h : i ≠ k) : (LL.set k L).getD i [] = LL.getD i [] := by simp [List.getD_eq_getElem?_getD, List.getElem?_set_ne (Ne.symm h)]
theorem getD_app_last {LL : List (List α)} {L : List α} : (LL ++ [L]).getD LL.length [] = L := by simp [List.getD_eq_getElem?_getD]
theorem getD_app_lt {LL : List (List α)} {i : Nat} {L : List α} (h : i < LL.length) : (LL ++ [L]).getD i [] = LL.getD i [] := by simp [List.getD_eq_getElem?_getD, List.getElem?_append_left h]
theorem HeapIs.perm {w : World} (h : HeapIs w0 H w) (hp : H.Perm H') : HeapIs w0 H' w :=
  ⟨h.same, h.size, fun e he => h.good e (hp.mem_iff.2 he), (hp.pairwise_iff (fun {x y} hxy => fun b hb hb' => hxy b hb' hb)).1 h.apart⟩
theorem perm_rot3 {e1 e2 e3 : Ent} : (e1 :: e2 :: e3 :: R).Perm (e3 :: e1 :: e2 :: R) := by
  refine List.Perm.trans (List.Perm.cons e1 (List.Perm.swap e3 e2 R)) (List.Perm.swap e3 e1 (e2 :: R))
/-- a row is taken out -/
theorem HeapIs.outN {w : World} {k : Nat} (h : HeapIs w0 (ownN T S a c LL :: R) w) (hk : k < LL.length) : ∃ p : (Nat → Prop) × (Nat → Prop), (∀ b, S b ↔ p.1 b ∨ p.2 b) ∧ HeapIs w0 (own T p.1 (c.ra k) (c.rc k) (LL.getD k []) :: ownX T p.2 a c LL (fun i => i = k) :: R) w := by
  obtain ⟨⟨S0, Ss⟩, h1, hn1, hn2, h2⟩ := HeapIs.splitX (X := fun _ => False) h
  have h3 := h2.perm (List.Perm.swap _ _ _)
  obtain ⟨g1, g2⟩ := h3.rowOut hk (fun h => h) (X' := fun i => i = k) (fun i hi => ⟨fun h => h, hi⟩)
  have g3 := g2.perm perm_rot3
  have g4 := (g3.perm (List.Perm.cons _ (List.Perm.swap _ _ _))).joinX (S := fun b => S0 b ∨ (S b ∧ ¬ S0 b) ∧ ¬ Ss k b) ⟨hn1, hn2⟩ (fun b => Iff.rfl)
  refine ⟨(Ss k, fun b => S0 b ∨ (S b ∧ ¬ S0 b) ∧ ¬ Ss k b), fun b => ⟨fun hb => ?_, fun hb => ?_⟩, g4.perm (List.Perm.swap _ _ _)⟩
  · by_cases e0 : S0 b
    · exact .inr (.inl e0)
    · by_cases e1 : Ss k b
      · exact .inl e1
      · exact .inr (.inr ⟨⟨hb, e0⟩, e1⟩)
  · rcases hb with hb | hb | hb
    · exact (g1 b hb).1
    · exact h1 b hb
    · exact hb.1.1
/-- a row is put back: the header's cell is what it was -/
theorem HeapIs.backN {w : World} {k cp : Nat} {Sr Sx S' : Nat → Prop} {ra : Option Addr} {L : List α} (h : HeapIs w0 (own T Sr ra cp L :: ownX T Sx a c LL (fun i => i = k) :: R) w) (hk : k < LL.length) (h1 : ra = c.ra k) (h2 : cp = c.rc k) (h3 : L.length = (LL.getD k []).length) (hS : ∀ b, S' b ↔ Sr b ∨ Sx b) : HeapIs w0 (ownN T S' a c (LL.set k L) :: R) w := by
  subst h1; subst h2
  obtain ⟨⟨S0, Ss⟩, q1, hn1, hn2, q2⟩ := HeapIs.splitX (h.perm (List.Perm.swap _ _ _))
  have q3 := (q2.perm (List.Perm.trans (List.Perm.cons _ (List.Perm.swap _ _ _)) (List.Perm.swap _ _ _)))
  have q4 := q3.perm (List.Perm.cons _ (List.Perm.swap _ _ _))
  have q5 := q4.rowIn (Sy := fun b => Sr b ∨ (Sx b ∧ ¬ S0 b)) (k := k) (c' := c) (LL' := LL.set k L) (X' := fun _ => False) ⟨rfl, rfl, getD_set_self hk⟩ (fun i hi _ hne => ⟨by simpa using hi, hne, rfl, rfl, getD_set_ne hne⟩) (fun b => Iff.rfl)
  have q6 := q5.perm (List.Perm.swap _ _ _)
  have e : hds c LL = hds c (LL.set k L) := by
    refine hds_ext (by rw [hds_len, List.length_set]) fun i hi => ?_
    rw [hds_get]
    by_cases e : i = k
    · subst e; rw [getD_set_self hk, h3]
    · rw [getD_set_ne e]
  rw [e] at q6
  exact q6.joinX (X := fun _ => False) (S := S') ⟨by rw [List.length_set]; exact hn1, by rw [List.length_set]; exact hn2⟩ (fun b => by
    rw [hS b]
    refine ⟨fun h => ?_, fun h => ?_⟩
    · rcases h with h | h
      · exact .inr (.inl h)
      · by_cases e0 : S0 b
        · exact .inl e0
        · exact .inr (.inr ⟨h, e0⟩)
    · rcases h with h | h | h
      · exact .inr (q1 b h)
      · exact .inl h
      · exact .inr h.1)
/-- an element of a row is stored -/
theorem o_storeEl {t : TypeId} {k idx j m : Nat} {v : Value} {vs : List Value} {z : α} (hx : ev F x = some (.pointer (some ((ea (c.ra k) (idx * T.k)).add j)))) (hy : ev F y = some v) (hvs : v.cells.toList = vs) (hk : k < LL.length) (hidx : idx < (LL.getD k []).length) (ht : sizeIs P t = some m) (hm : vs.length = m) (hv : (vs.all one1) = true)
    (hj : Nat.ble (j + vs.length) T.k = true) (henc : T.enc z = setCells (T.enc (LL.getD k [])[idx]) j vs) (hF : Sub F F') (h : SO r ds P n w0 ops Q rest F' (ownN T S a c (LL.set k ((LL.getD k []).set idx z)) :: R)) : SO r ds P n w0 ops Q (⟨none, .store t x y, ty, pos, after, none⟩ :: rest) F (ownN T S a c LL :: R) := by
  refine o_exH (HH := fun p : { p : (Nat → Prop) × (Nat → Prop) // ∀ b, S b ↔ p.1 b ∨ p.2 b } => own T p.1.1 (c.ra k) (c.rc k) (LL.getD k []) :: ownX T p.1.2 a c LL (fun i => i = k) :: R) (fun w hw => hw.outN hk |>.elim fun p hp => ⟨⟨p, hp.1⟩, hp.2⟩) fun p => ?_
  refine o_storeF (i := 0) hx hy hvs rfl hidx ht hm hv hj henc hF ?_
  exact o_heap (fun w hw => HeapIs.backN hw hk rfl rfl (by rw [List.length_set]) p.2) h
theorem o_storeElW {t : TypeId} {k idx m : Nat} {v : Value} {vs : List Value} {z : α} (hx : ev F x = some (.pointer (some (ea (c.ra k) (idx * T.k))))) (hy : ev F y = some v) (hvs : v.cells.toList = vs) (hk : k < LL.length) (hidx : idx < (LL.getD k []).length) (ht : sizeIs P t = some m) (hm : vs.length = m) (hv : (vs.all one1) = true)
    (hj : Nat.beq vs.length T.k = true) (henc : T.enc z = vs) (hF : Sub F F') (h : SO r ds P n w0 ops Q rest F' (ownN T S a c (LL.set k ((LL.getD k []).set idx z)) :: R)) : SO r ds P n w0 ops Q (⟨none, .store t x y, ty, pos, after, none⟩ :: rest) F (ownN T S a c LL :: R) := by
  refine o_exH (HH := fun p : { p : (Nat → Prop) × (Nat → Prop) // ∀ b, S b ↔ p.1 b ∨ p.2 b } => own T p.1.1 (c.ra k) (c.rc k) (LL.getD k []) :: ownX T p.1.2 a c LL (fun i => i = k) :: R) (fun w hw => hw.outN hk |>.elim fun p hp => ⟨⟨p, hp.1⟩, hp.2⟩) fun p => ?_
  refine o_storeW (i := 0) hx hy hvs rfl hidx ht hm hv hj henc hF ?_
  exact o_heap (fun w hw => HeapIs.backN hw hk rfl rfl (by rw [List.length_set]) p.2) h
/-- a row is taken out, as a step -/
theorem o_outN {l : List Oper} {k : Nat} (hk : k < LL.length) (h : ∀ Sr Sx, SO r ds P n w0 ops Q l F (own T Sr (c.ra k) (c.rc k) (LL.getD k []) :: ownX T Sx a c LL (fun i => i = k) :: R)) : SO r ds P n w0 ops Q l F (ownN T S a c LL :: R) :=
  o_exH (fun w hw => hw.outN hk |>.elim fun p hp => ⟨p, hp.2⟩) fun p => h p.1 p.2
/-- a row is stored as a whole -/
theorem o_storeRow {t : TypeId} {k cp : Nat} {Sr Sx : Nat → Prop} {ra : Option Addr} {L : List α} (hx : ev F x = some (.pointer (some (ea a (k * tHdE.k))))) (hy : ev F y = some (.slice ra L.length cp)) (hk : k < LL.length) (ht : sizeIs P t = some 1) (hF : Sub F F')
    (h : ∀ S', SO r ds P n w0 ops Q rest F' (ownN T S' a (c.put k ra cp) (LL.set k L) :: R)) : SO r ds P n w0 ops Q (⟨none, .store t x y, ty, pos, after, none⟩ :: rest) F (own T Sr ra cp L :: ownX T Sx a c LL (fun i => i = k) :: R) := by
  refine o_exH (HH := fun p : { p : (Nat → Prop) × (Nat → Nat → Prop) // (∀ b, p.1 b → Sx b) ∧ LL.length ≤ c.n ∧ LL.length ≤ 140737488355328 } => own tHdE p.1.1 a c.n (hds c LL) :: rowsE T (fun b => Sx b ∧ ¬ p.1.1 b) p.1.2 c LL (fun i => i = k) :: own T Sr ra cp L :: R)
    (fun w hw => by
      obtain ⟨p, q1, q2, q3, q4⟩ := HeapIs.splitX (hw.perm (List.Perm.swap _ _ _))
      exact ⟨⟨p, q1, q2, q3⟩, q4⟩) fun ⟨p, q1, q2, q3⟩ => ?_
  refine o_storeW (i := 0) (T := tHdE) (L := hds c LL) (idx := k) (z := ⟨ra, L.length, cp⟩) (vs := [.slice ra L.length cp]) hx hy rfl rfl (by rw [hds_len]; exact hk) ht rfl rfl rfl rfl hF ?_
  refine o_heap (fun w hw => ?_) (h (fun b => p.1 b ∨ (Sr b ∨ Sx b ∧ ¬ p.1 b)))
  have hw1 : HeapIs w0 (own tHdE p.1 a c.n ((hds c LL).set k ⟨ra, L.length, cp⟩) :: rowsE T (fun b => Sx b ∧ ¬ p.1 b) p.2 c LL (fun i => i = k) :: own T Sr ra cp L :: R) w := hw
  have q5 := (hw1.perm perm_rot3).perm (List.Perm.cons _ (List.Perm.swap _ _ _))
  have q6 := q5.rowIn (Sy := fun b => Sr b ∨ (Sx b ∧ ¬ p.1 b)) (k := k) (c' := c.put k ra cp) (LL' := LL.set k L) (X' := fun _ => False) ⟨by simp [NC.put], by simp [NC.put], getD_set_self hk⟩
    (fun i hi _ hne => ⟨by simpa using hi, hne, by simp [NC.put, hne], by simp [NC.put, hne], getD_set_ne hne⟩) (fun b => Iff.rfl)
  have q7 := q6.perm (List.Perm.swap _ _ _)
  have e : (hds c LL).set k ⟨ra, L.length, cp⟩ = hds (c.put k ra cp) (LL.set k L) := by
    refine hds_ext (by rw [List.length_set, hds_len, List.length_set]) fun i hi => ?_
    rw [List.getElem_set]
    by_cases e : k = i
    · subst e; rw [if_pos rfl, getD_set_self hk]; simp [NC.put]
    · rw [if_neg e, hds_get, getD_set_ne (Ne.symm e)]; simp [NC.put, Ne.symm e]
  rw [e] at q7
  exact q7.joinX (X := fun _ => False) ⟨by rw [List.length_set]; exact q2, by rw [List.length_set]; exact q3⟩ (fun b => Iff.rfl)
/-- a row is appended -/
theorem o_appendN {t tx e : TypeId} {d' : TypeDesc} {bytes j : Nat} {b : Option Addr} {cb cp : Nat} {Sr Sb : Nat → Prop} {ra : Option Addr} {L : List α} (hx : ev F x = some (.slice a LL.length c.n)) (hy : ev F y = some (.slice b 1 cb)) (hj : R[j]? = some (own tHdE Sb b cb [⟨ra, L.length, cp⟩]))
    (hu : P.underlying t = some (.slice e)) (hux : P.underlying tx = some d') (hd : ∀ k, d' ≠ .int k) (he : elemIs P e 1 bytes)
    (hsmall : LL.length + 1 ≤ 140737488355328 ∧ (LL.length + 1 + (LL.length + 1) / 4 + 1200) * (bytes + 1) ≤ 281474976710656) (hn : Nat.blt d n = true)
    (h : ∀ a' m' S', SO r ds P n w0 ops Q rest ((d, .slice a' (LL ++ [L]).length m') :: F) (ownN T S' a' (c.push m' LL.length ra cp) (LL ++ [L]) :: R)) :
    SO r ds P n w0 ops Q (⟨some d, .call { callee := .builtin .append, args := #[x, y], argTypes := #[t, tx] }, ty, pos, after, none⟩ :: rest) F (ownN T S a c LL :: own T Sr ra cp L :: R) := by
  refine o_exH (HH := fun p : { p : (Nat → Prop) × (Nat → Nat → Prop) // (∀ b, p.1 b → S b) ∧ LL.length ≤ c.n ∧ LL.length ≤ 140737488355328 } => own tHdE p.1.1 a c.n (hds c LL) :: rowsE T (fun b => S b ∧ ¬ p.1.1 b) p.1.2 c LL (fun _ => False) :: own T Sr ra cp L :: R)
    (fun w hw => by
      obtain ⟨p, q1, q2, q3, q4⟩ := HeapIs.splitX (X := fun _ => False) hw
      exact ⟨⟨p, q1, q2, q3⟩, q4⟩) fun ⟨p, q1, q2, q3⟩ => ?_
  refine o_append (i := 0) (T := tHdE) (L := hds c LL) (M := [⟨ra, L.length, cp⟩]) (by rw [hds_len]; exact hx) hy rfl (rd_own (i := j + 3) (S := Sb) hj) hu hux hd he (by intro z v hv; simp [tHdE] at hv; subst hv; rfl) (by decide) (by rw [hds_len]; exact hsmall) hn fun a' m' S' => ?_
  have hlen : (hds c LL ++ [(⟨ra, L.length, cp⟩ : HdE)]).length = (LL ++ [L]).length := by simp [hds_len]
  rw [hlen]
  refine o_exH (HH := fun _ : { _u : Unit // LL.length + 1 ≤ m' } => own tHdE S' a' m' (hds c LL ++ [(⟨ra, L.length, cp⟩ : HdE)]) :: rowsE T (fun b => S b ∧ ¬ p.1 b) p.2 c LL (fun _ => False) :: own T Sr ra cp L :: R) (fun w hw => ⟨⟨(), by
    have h9 := (own_len (i := 0) (T := tHdE) hw rfl).1
    simpa [hds_len] using h9⟩, hw⟩) fun ⟨_, q4⟩ => ?_
  refine o_heap (fun w hw => ?_) (h a' m' (fun b => S' b ∨ (Sr b ∨ S b ∧ ¬ p.1 b)))
  have q5 := (hw.perm perm_rot3).perm (List.Perm.cons _ (List.Perm.swap _ _ _))
  have q6 := q5.rowIn (Sy := fun b => Sr b ∨ (S b ∧ ¬ p.1 b)) (k := LL.length) (c' := c.push m' LL.length ra cp) (LL' := LL ++ [L]) (X' := fun _ => False) ⟨by simp [NC.push], by simp [NC.push], getD_app_last⟩
    (fun i hi _ hne => by
      have hi' : i < LL.length := by simp at hi; omega
      exact ⟨hi', fun h => h, by simp [NC.push, hne], by simp [NC.push, hne], getD_app_lt hi'⟩) (fun b => Iff.rfl)
  have q7 := q6.perm (List.Perm.swap _ _ _)
  have e : hds c LL ++ [(⟨ra, L.length, cp⟩ : HdE)] = hds (c.push m' LL.length ra cp) (LL ++ [L]) := by
    refine hds_ext hlen fun i hi => ?_
    by_cases e : i < LL.length
    · rw [List.getElem_append_left (by rw [hds_len]; exact e), hds_get, getD_app_lt e]; simp [NC.push, Nat.ne_of_lt e]
    · have e1 : i = LL.length := by simp [hds_len] at hi; omega
      subst e1
      rw [List.getElem_append_right (by rw [hds_len]; exact Nat.le_refl _), getD_app_last]
      simp [NC.push, hds_len]
  rw [e] at q7
  exact q7.joinX (X := fun _ => False) ⟨by simpa [NC.push] using q4, by have := hsmall.1; simpa using this⟩ (fun b => Iff.rfl)
/-! ### only the shape is known -/
def Shape (LL LL0 : List (List α)) : Prop := LL.length = LL0.length ∧ ∀ i, (LL.getD i []).length = (LL0.getD i []).length
theorem Shape.refl (LL : List (List α)) : Shape LL LL := ⟨rfl, fun _ => rfl⟩
theorem Shape.set {LL : List (List α)} {k i : Nat} {z : α} : Shape (LL.set k ((LL.getD k []).set i z)) LL := ⟨by simp, fun j => by
  by_cases h : k < LL.length
  · by_cases e : j = k
    · subst e; rw [getD_set_self h]; simp
    · rw [getD_set_ne e]
  · rw [List.set_eq_of_length_le (by omega)]⟩
def ownNE (T : Ty α) (S : Nat → Prop) (a : Option Addr) (c : NC) (LL0 : List (List α)) : Ent := ⟨S, fun w => ∃ LL, Shape LL LL0 ∧ SlON T S w a c LL⟩
theorem HeapIs.toNE {w : World} {i : Nat} {LL0 : List (List α)} (hi : H[i]? = some (ownN T S a c LL)) (hm : Shape LL LL0) (hw : HeapIs w0 H w) : HeapIs w0 (H.set i (ownNE T S a c LL0)) w := by
  have g := hw.at hi
  exact hw.change hi ⟨rfl, rfl, rfl⟩ (Nat.le_refl _) (fun b hb => .inl hb) (fun _ _ _ => rfl) (fun w1 w2 ha ⟨L', h1, h2⟩ => ⟨L', h1, SlON.agree ha h2⟩) ⟨LL, hm, g.here⟩
theorem p_indexAddrNE {t e : TypeId} {k : IntKind} {i : Int} {j : Nat} (hx : ev F x = some (.slice a LL.length c.n)) (hy : ev F y = some (.int k i)) (hj : H[j]? = some (ownNE T S a c LL)) (hu : P.underlying t = some (.slice e)) (hs : sizeIs P e = some 1)
    (h0 : 0 ≤ i) (h1 : i < (LL.length : Int)) : Pure ds P n w0 ⟨dst, .indexAddr t x y, ty, pos, after, guard⟩ F H (.pointer (some (ea a (i.toNat * tHdE.k)))) := fun b w hb hw => by
  obtain ⟨L', h2, h3⟩ := (hw.at hj).here
  have g := (SlON.toR h3).2.2.1
  obtain ⟨z, rfl, hz⟩ := g.nonnil (by rw [hds_len, h2.1]; omega)
  have e : tHdE.k = 1 := rfl
  simp [execOp, hb.eval hx, hb.eval hy, Instr.indexAt, asIntOf, run_underlying hu, run_sizeOf hs, h0, h1, ea, e]
theorem p_indexAddrX {t e : TypeId} {k : IntKind} {i : Int} {j : Nat} (hx : ev F x = some (.slice a LL.length c.n)) (hy : ev F y = some (.int k i)) (hj : H[j]? = some (ownX T S a c LL X)) (hu : P.underlying t = some (.slice e)) (hs : sizeIs P e = some 1)
    (h0 : 0 ≤ i) (h1 : i < (LL.length : Int)) : Pure ds P n w0 ⟨dst, .indexAddr t x y, ty, pos, after, guard⟩ F H (.pointer (some (ea a (i.toNat * tHdE.k)))) := fun b w hb hw => by
  obtain ⟨_, _, S0, Ss, _, h3, _⟩ : SlOX T S w a c LL X := (hw.at hj).here
  obtain ⟨z, rfl, hz⟩ := (SlO.toR h3).nonnil (by rw [hds_len]; omega)
  have e : tHdE.k = 1 := rfl
  simp [execOp, hb.eval hx, hb.eval hy, Instr.indexAt, asIntOf, run_underlying hu, run_sizeOf hs, h0, h1, ea, e]
theorem p_loadNE {t : TypeId} {i j : Nat} (hx : ev F x = some (.pointer (some (ea a (i * tHdE.k))))) (hj : H[j]? = some (ownNE T S a c LL)) (hi : i < LL.length) (ht : shp P t = some none) :
    Pure ds P n w0 ⟨dst, .load t x, ty, pos, after, guard⟩ F H (.slice (c.ra i) (LL.getD i []).length (c.rc i)) := fun b w hb hw => by
  obtain ⟨L', h2, h3⟩ := (hw.at hj).here
  have hb2 := (hw.at hj).bound
  have g : RdN T w a c L' := (SlON.toR h3).mono hb2
  have hi' : i < L'.length := by rw [h2.1]; exact hi
  have h9 := p_loadE1 (P := P) (n := n) (w0 := w) (ds := ds) (F := F) (H := [base w]) (T := tHdE) (a := a) (cap := c.n) (L := hds c L') (i := i) (v := .slice (c.ra i) (L'.getD i []).length (c.rc i)) (dst := dst) (ty := ty) (pos := pos) (after := after) (guard := guard) hx (rd_base (i := 0) rfl g.2.2.1) (by rw [hds_len]; exact hi') ht (by rw [hds_get]; rfl) b w hb (HeapIs.begin w)
  rw [h2.2 i] at h9
  exact h9
theorem p_indexAddrRowNE {t e : TypeId} {kk : IntKind} {i : Int} {j k : Nat} (hx : ev F x = some (.slice (c.ra k) (LL.getD k []).length (c.rc k))) (hy : ev F y = some (.int kk i)) (hj : H[j]? = some (ownNE T S a c LL)) (hk : k < LL.length) (hu : P.underlying t = some (.slice e)) (hs : sizeIs P e = some T.k)
    (h0 : 0 ≤ i) (h1 : i < ((LL.getD k []).length : Int)) : Pure ds P n w0 ⟨dst, .indexAddr t x y, ty, pos, after, guard⟩ F H (.pointer (some (ea (c.ra k) (i.toNat * T.k)))) := fun b w hb hw => by
  obtain ⟨L', h2, h3⟩ := (hw.at hj).here
  have g := (SlON.toR h3).2.2.2 k (by rw [h2.1]; exact hk)
  obtain ⟨z, hz, _⟩ := g.nonnil (by rw [h2.2]; omega)
  rw [hz] at hx ⊢
  generalize hm : (LL.getD k []).length = m at *
  simp [execOp, hb.eval hx, hb.eval hy, Instr.indexAt, asIntOf, run_underlying hu, run_sizeOf hs, h0, h1, ea]
/-- rows of zeros -/
theorem HeapIs.zerosN {w : World} {m : Nat} (T : Ty α) (h : HeapIs w0 (own tHdE S a m (List.replicate m default) :: R) w) : HeapIs w0 (ownN T S a (ncz m) (List.replicate m ([] : List α)) :: R) w := by
  refine h.head1 (e' := ownN T S a (ncz m) (List.replicate m [])) (fun b hb => hb) (fun _ _ ha hA => SlON.agree ha hA) fun hA => ?_
  have hA1 : SlO tHdE S w a m (List.replicate m default) := hA
  have e : (List.replicate m default : List HdE) = hds (ncz m) (List.replicate m ([] : List α)) := by
    refine hds_ext (by simp) fun i hi => ?_
    rw [List.getElem_replicate]
    have hi' : i < m := by simpa using hi
    simp [ncz, List.getD_eq_getElem?_getD, hi']; rfl
  rw [e] at hA1
  have h2 := hA1.2.1
  rw [hds_len, List.length_replicate] at h2
  refine ⟨by simp [ncz], by simpa using h2, S, fun _ _ => False, fun _ h => h, hA1, fun i hi _ => ⟨?_, fun b hb => hb.elim⟩, fun i j _ _ _ _ _ b hb => hb.elim⟩
  have hi' : i < m := by simpa using hi
  have : (List.replicate m ([] : List α)).getD i [] = [] := by simp [List.getD_eq_getElem?_getD, hi']
  rw [this]
  exact SlO.nil T w
theorem o_makeSliceN {t e : TypeId} {bytes : Nat} {k k2 : IntKind} {m : Int} {zs : List Value} (T : Ty α) (hx : ev F x = some (.int k m)) (hy : ev F y = some (.int k2 m)) (hu : P.underlying t = some (.slice e)) (he : elemIs P e 1 bytes) (hz : zeroOf P e = some zs) (hzs : [.slice none 0 0] = zs) (h0 : 0 ≤ m) (h1 : m * (bytes + 1) ≤ 140737488355328) (hn : Nat.blt d n = true)
    (h : ∀ S a, SO r ds P n w0 ops Q rest ((d, .slice a (List.replicate m.toNat ([] : List α)).length (ncz m.toNat).n) :: F) (ownN T S a (ncz m.toNat) (List.replicate m.toNat ([] : List α)) :: H)) : SO r ds P n w0 ops Q (⟨some d, .makeSlice t x y, ty, pos, after, none⟩ :: rest) F H := by
  refine o_makeSlice (T := tHdE) (z := default) hx hy hu he hz hzs (by decide) h0 h1 hn fun S a => ?_
  have e : (List.replicate m.toNat (default : HdE)).length = (List.replicate m.toNat ([] : List α)).length := by simp
  rw [e]
  exact o_heap (fun w hw => HeapIs.zerosN T hw) (h S a)
end
end
end Go.Sx

/- Shifts and differences of whole numbers with a sign; texts made of bytes. -/
namespace Go.Sx
open Go.RowKit
section
variable {P : Program} {n : Nat} {w0 : World} {r : Option Nat} {ds : List Deferred} {F : List (Nat × Value)} {H : List Ent}
variable {ty : TypeId} {pos : String} {after : Array Edge} {guard : Option (Nat × Bool)} {dst : Option Tmp} {tx tY : TypeId} {x y : Operand}
theorem p_shrI {k : IntKind} {p z : Int} {m : Nat} (hx : ev F x = some (.int .i64 p)) (hy : ev F y = some (.int k z)) (hz : z = (m : Int)) (hm : m ≤ 64) : Pure ds P n w0 ⟨dst, .binOp .shr tx x y tY, ty, pos, after, guard⟩ F H (.int .i64 (p / 2 ^ m)) := fun a w ha _ => by
  subst hz
  have h : (Op.shift .shr .i64 p k (m : Int)) = (pure (.int .i64 (p / 2 ^ m)) : Sem Value) := by
    unfold Op.shift
    rw [if_neg (by omega)]
    have e : min ((m : Int)).toNat IntKind.i64.bits = m := by simp [IntKind.bits]; omega
    have e2 : p.fdiv (2 ^ m) = p / 2 ^ m := Int.fdiv_eq_ediv_of_nonneg _ (Int.le_of_lt (Int.pow_pos (by decide)))
    show (pure (.int .i64 (p.fdiv (2 ^ min ((m : Int)).toNat IntKind.i64.bits))) : Sem Value) = _
    rw [e, e2]
  simp [execOp, ha.eval hx, ha.eval hy, eqGuard, binOp, h]
/-- The bits in which two whole numbers differ. -/
def xorI (p q : Int) : Int := IntKind.i64.wrap ((BitVec.ofInt 64 p ^^^ BitVec.ofInt 64 q).toNat : Int)
theorem p_xorI {p q : Int} (hx : ev F x = some (.int .i64 p)) (hy : ev F y = some (.int .i64 q)) : Pure ds P n w0 ⟨dst, .binOp .xor tx x y tY, ty, pos, after, guard⟩ F H (.int .i64 (xorI p q)) := fun a w ha _ => by
  have h : (Op.intBits .xor .i64 p q) = (pure (.int .i64 (xorI p q)) : Sem Value) := rfl
  simp [execOp, ha.eval hx, ha.eval hy, eqGuard, binOp, h]
def tU8 : Ty Int := ⟨1, fun z => [.int .u8 z], fun _ => rfl⟩
def bytesOf (l : List Int) : ByteArray := l.foldl (fun r n => r.push (UInt8.ofNat n.toNat)) ByteArray.empty
theorem p_bytesStr {ts td e : TypeId} {a : Option Addr} {cap : Nat} {L : List Int} (hx : ev F x = some (.slice a L.length cap)) (hr : ∀ w, HeapIs w0 H w → Rd tU8 w a cap L) (hs : P.underlying ts = some (.slice e)) (he : P.underlying e = some (.int .u8)) (hd : P.underlying td = some .string) :
    Pure ds P n w0 ⟨dst, .convert ts td x, ty, pos, after, guard⟩ F H (.string (bytesOf L)) := fun b w hb hw => by
  have h : (Conv.bytesToString (.slice a L.length cap)).run P w = .ok (.string (bytesOf L)) w := by
    have hrd := hr w hw
    cases a with
    | none =>
      have h1 := hrd.1
      have h2 : cap = 0 := hrd.2.2
      have hL : L = [] := List.length_eq_zero_iff.1 (by omega)
      subst hL; rfl
    | some z =>
      refine run_bytesToString w z L.length cap L ?_
      obtain ⟨h1, _, h2, h3⟩ := hrd
      by_cases h00 : L.length = 0
      · have hL : L = [] := List.length_eq_zero_iff.1 h00
        subst hL; simp [loadCells, loadCellsFrom]
      have hspot := (h2 (by omega)).1
      obtain ⟨bb, o, s⟩ := z
      simp only at hspot h3
      subst hspot
      have := run_loadCellsFrom (P := P) (w := w) (a := ⟨bb, o, none⟩) L.length 0 #[] (L.map (Value.int .u8)) (by simp) (fun q hq => by
        have had : Addr.add ⟨bb, o, none⟩ (0 + q) = ⟨bb, o + q * tU8.k + 0, none⟩ := by
          have e1 : q * tU8.k = q := Nat.mul_one q
          rw [e1]; unfold Addr.add; split <;> simp_all
        rw [had, h3 q hq 0 (by decide)]
        simp [tU8, hq])
      simpa [loadCells] using this
  simp [execOp, hb.eval hx, convert, run_bind, run_underlying hs, run_underlying he, run_underlying hd, h]
end
end Go.Sx

/- Parts of strings. -/
namespace Go.Sx
open Go.RowKit
section
variable {P : Program} {n : Nat} {w0 : World} {r : Option Nat} {ds : List Deferred} {F : List (Nat × Value)} {H : List Ent}
variable {ty : TypeId} {pos : String} {after : Array Edge} {guard : Option (Nat × Bool)} {dst : Option Tmp} {x y z : Operand} {t : TypeId} {s : ByteArray}
theorem run_sliceAtStr {lo hi mx : Option Value} (hu : P.underlying t = some .string) (w : World) : (Instr.sliceAt t (.string s) lo hi mx).run P w = (Instr.slice t (.string s) lo hi mx).run P w := by
  simp [Instr.sliceAt, run_underlying hu]
theorem p_sliceStrH {k : IntKind} {h : Int} (hx : ev F x = some (.string s)) (hy : ev F y = some (.int k h)) (hu : P.underlying t = some .string) (h0 : 0 ≤ h) (h1 : h ≤ (s.size : Int)) :
    Pure ds P n w0 ⟨dst, .slice t x none (some y) none, ty, pos, after, guard⟩ F H (.string (s.extract 0 h.toNat)) := fun a w ha _ => by
  simp [execOp, ha.eval hx, ha.eval hy, run_sliceAtStr hu, run_slice_string_h w t s hu k h h0 h1]
theorem p_sliceStrL {k : IntKind} {l : Int} (hx : ev F x = some (.string s)) (hy : ev F y = some (.int k l)) (hu : P.underlying t = some .string) (h0 : 0 ≤ l) (h1 : l ≤ (s.size : Int)) :
    Pure ds P n w0 ⟨dst, .slice t x (some y) none none, ty, pos, after, guard⟩ F H (.string (s.extract l.toNat s.size)) := fun a w ha _ => by
  simp [execOp, ha.eval hx, ha.eval hy, run_sliceAtStr hu, run_slice_string_l w t s hu k l h0 h1]
theorem p_sliceStrLH {k k2 : IntKind} {l h : Int} (hx : ev F x = some (.string s)) (hy : ev F y = some (.int k l)) (hz : ev F z = some (.int k2 h)) (hu : P.underlying t = some .string) (h0 : 0 ≤ l) (h1 : l ≤ h) (h2 : h ≤ (s.size : Int)) :
    Pure ds P n w0 ⟨dst, .slice t x (some y) (some z) none, ty, pos, after, guard⟩ F H (.string (s.extract l.toNat h.toNat)) := fun a w ha _ => by
  simp [execOp, ha.eval hx, ha.eval hy, ha.eval hz, run_sliceAtStr hu, run_slice_string w t s k k2 l h hu h0 h1 h2]
end
end Go.Sx

/- Cards: a law under what the listed variables hold, the world's shape kept. -/
namespace Go.Sx
open Go.RowKit
variable {H : Type} {enc : TypeId × Value → H}
theorem handed_and_shaped {a : Assume} {C : Checked} {os : Os} {f : FuncId} {fn : Func} {s : ChangeSpec} {conds : List PathCond} {apart fresh handsOn again : Bool} {X : World → Array Value → Prop}
    (hX : ∀ (w w' : World) (args : Array Value), w.heap = w'.heap → X w args → X w' args)
    (own : ownKnob C.prog.godebug = none) (started : os.Started) (noInit : C.prog.inits.idxOf? f = none) (hfn : C.prog.funcs[f]? = some fn)
    (witness : ∃ (w : World) (tape : Tape) (i : Input), w.os = os ∧ (w.forCall tape i).Shaped C.prog ∧ i.vars = [] ∧ Input.okWide C.prog (w.forCall tape i) .any w.heap.size f i ∧
      ((s.pre enc C.prog fn conds apart (w.forCall tape i).memory i.args ∧ X (w.forCall tape i).memory i.args) ∧ sizedMet enc C.prog fn (OpenSpec.ofChange s) apart (w.forCall tape i).memory i.args) ∧ a.holds C.prog (lone (Frame.enter C.prog f i.args .normal) [] (w.forCall tape i)))
    (contract : ∀ (W : World) (base : Nat) (args : Array Value) (ds gs : List (DataW H)) (before : List MemPlace),
      (∀ (j : Nat) t v, fn.params[j]? = some t → args[j]? = some v → Value.okWide C.prog W .any base t v) →
      DataW.Whole enc C.prog fn.params.toList s.vars apart W args.toList ds gs before →
      conds.all (PathCond.test C.prog ⟨fn.params.toList, ds, s.plain.varTypes C.prog, gs⟩) = true →
      (DataW.weightsEach C.prog (fn.params.toList ++ s.plain.varTypes C.prog) (ds ++ gs)).all (· ≤ reachBytes) = true → X W args →
      W.ShapedOpen C.prog →
      Calls C.prog f args W fun e W' => ∃ v, e = .returned v ∧ s.post enc C.prog fn apart fresh handsOn again W args v W') :
    ReturnsInHanded a C os f .any (fun w args => (s.pre enc C.prog fn conds apart w args ∧ X w args) ∧ sizedMet enc C.prog fn (OpenSpec.ofChange s) apart w args) (s.post enc C.prog fn apart fresh handsOn again) := by
  refine returnsInHanded_of_calls own started noInit witness ?_
  intro w tape i _ hsh _ hok hpre hholds
  obtain ⟨_, _, _, fn', hfn', _, _, _, _, hval⟩ := hok
  have e : fn' = fn := Option.some.inj (hfn'.symm.trans hfn)
  subst e
  obtain ⟨⟨⟨ds, gs, before, hw, hc⟩, hx⟩, hz⟩ := hpre
  have hw' := DataW.Whole.of_heap (w' := w.forCall tape i) (by rfl) hw
  refine (contract (w.forCall tape i) w.heap.size i.args ds gs before hval hw' hc (hz.weights hw) (hX _ _ _ (by rfl) hx) hsh).mono fun e W' ⟨v, he, hp⟩ => ?_
  subst he
  exact ChangeSpec.post_blind hp
/-! ### what a call keeps of the library's variables -/
theorem tabIs_below {P : Program} {w w' : World} {name : String} {k : IntKind} {zs : List Int} (hb : Below w.heap.size w w') (h : Lib.TabIs P w name k zs) : Lib.TabIs P w' name k zs := by
  unfold Lib.TabIs World.var? at *
  cases hg : P.globalNamed name with
  | none => rw [hg] at h; exact h
  | some g =>
    rw [hg] at h
    simp only [Option.bind_some] at h ⊢
    by_cases hlt : g < w.heap.size
    · rw [hb.block g hlt]; exact h
    · rw [Array.getElem?_eq_none (by omega)] at h; cases h
theorem someInt_below {w w' : World} {a : Addr} {k : IntKind} (hb : Below w.heap.size w w') (h : ∃ m, w.cell? a = some (.int k m)) : ∃ m, w'.cell? a = some (.int k m) := by
  obtain ⟨m, hm⟩ := h
  refine ⟨m, ?_⟩
  have hlt := World.block_lt_of_cell? _ _ hm
  have e := hb.block a.block hlt
  unfold World.cell? at hm ⊢
  rw [e]; exact hm
theorem tabIs_of_reads {P : Program} {W : World} {name : String} {k : IntKind} {zs : List Int} {g : Nat} {t e : TypeId} {n : Nat}
    (hg : P.globalNamed name = some g) (hty : (P.globals[g]?).map (·.type) = some t) (ht : P.underlying t = some (.array n e)) (he : P.underlying e = some (.int k)) (hce : P.cellsOf e = 1) (hct : P.cellsOf t = n)
    (h : Lib.VarReads P W name (Lib.tabData k zs)) : Lib.TabIs P W name k zs := by
  obtain ⟨g', t', cs, fuel, p, hg', ht', hvar, hd⟩ := h
  obtain rfl := Option.some.inj (hg.symm.trans hg')
  obtain rfl := Option.some.inj (hty.symm.trans ht')
  unfold Lib.TabIs
  rw [hvar, ← Lib.cells_of_tab ht he hce hct hd]
end Go.Sx
