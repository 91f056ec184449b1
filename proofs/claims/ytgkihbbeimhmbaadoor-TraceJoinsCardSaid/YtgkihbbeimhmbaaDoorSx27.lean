/- Strings as keys of maps and as elements; structs with strings compared; function values called in a drawn region; the greater of two numbers without sign. -/
import Derived.Test.YtgkihbbeimhmbaaDoorSx23
namespace Go.Sx
open Go.RowKit
def tStr : Ty ByteArray := ⟨1, fun s => [.string s], fun _ => rfl⟩
instance : Inhabited ByteArray := ⟨ByteArray.empty⟩
theorem ba_beq (a b : ByteArray) : (a == b) = decide (a = b) := by
  rw [Bool.eq_iff_iff, decide_eq_true_eq]
  cases a with
  | mk x =>
  cases b with
  | mk y =>
  show (x == y) = true ↔ _
  rw [beq_iff_eq, ByteArray.mk.injEq]
instance : LawfulBEq ByteArray where
  eq_of_beq h := by rw [ba_beq] at h; exact of_decide_eq_true h
  rfl := by intro a; rw [ba_beq]; exact decide_eq_true rfl
def kStr : KTy ByteArray := ⟨fun s => .string s, .string, fun a b => by
    simp only [Instr.sameNow, ba_beq], fun a => by simp [Instr.sameBits, ba_beq], .inr rfl⟩
def mxU (a b : UInt64) : UInt64 := if a < b then b else a
section
variable {P : Program} {n : Nat} {w0 : World} {r : Option Nat} {ds : List Deferred} {Q : Exit → Act → World → Prop} {F F' : List (Nat × Value)} {H H' : List Ent} {ops : Array Oper}
variable {ty : TypeId} {pos : String} {after : Array Edge} {guard : Option (Nat × Bool)} {dst : Option Tmp} {rest : List Oper} {d : Nat} {x y : Operand}
theorem w_call0V {f : FuncId} {g : Operand} {args : Array Operand} {ats : Array TypeId} {vs caps : List Value} {Pre : World → Prop} {v : Value} (hg : ev F g = some (.func (.func f) #[] caps.toArray)) (hv : evs F args.toList = some vs) (hf : Fn0 P f (vs ++ caps) Pre v) (hP : HasFn P f) (hpre : ∀ w, HeapIs w0 H w → Pre w) (hn : Nat.blt d n = true)
    (h : SW ds P n w0 ops Q rest ((d, v) :: F) H) : SW ds P n w0 ops Q (⟨some d, .call { callee := .value g, args := args, argTypes := ats }, ty, pos, after, none⟩ :: rest) F H := fun a ha =>
  wpQuiet_step fun K hK => by
    obtain ⟨fn, c, h1, h2, h3⟩ := hP
    rw [if_pos (by simp [Region.wanted])]
    refine ⟨v, fun w hw => ?_, hK _ (h _ (ha.put hn v))⟩
    unfold Oper.quietAt
    rw [run_callV ha hg hv h1 h2 h3]
    exact ⟨rfl, (hf w (hpre w hw)).mono fun e w' ⟨he, hb⟩ => ⟨he, hw.below hb⟩⟩
theorem pu_max {ats : Array TypeId} {p q : UInt64} (hx : ev F x = some (.int .u64 (p.toNat : Int))) (hy : ev F y = some (.int .u64 (q.toNat : Int))) : Pure ds P n w0 ⟨dst, .call { callee := .builtin .max, args := #[x, y], argTypes := ats }, ty, pos, after, guard⟩ F H (.int .u64 ((mxU p q).toNat : Int)) := fun b w hb _ => by
  have e : (if (p.toNat : Int) < (q.toNat : Int) then (q.toNat : Int) else (p.toNat : Int)) = ((mxU p q).toNat : Int) := by
    unfold mxU
    by_cases h : p < q
    · have h2 := UInt64.lt_iff_toNat_lt.1 h
      rw [if_pos h, if_pos (by omega)]
    · have h2 : ¬ p.toNat < q.toNat := fun e => h (UInt64.lt_iff_toNat_lt.2 e)
      rw [if_neg h, if_neg (by omega)]
  simp [execOp, resolve, invoke, builtin, Builtin.max_, Builtin.max2, hb.eval hx, hb.eval hy]
  simpa using e
theorem FE.str {xs ys : Array Value} {f : Field} {fs : List Field} {a b : ByteArray} {r : Bool} (hn : f.name ≠ "_") (hu : P.underlying f.type = some .string) (hx : xs[f.offset]? = some (.string a)) (hy : ys[f.offset]? = some (.string b))
    (h : FE P xs ys fs r) : FE P xs ys (f :: fs) (decide (a = b) && r) :=
  FE.cons hn (by simp [Program.plainKey, hu]) hx hy (fun d w => by
    simp [Op.equalIn, run_underlying hu, ba_beq]) h
theorem FE.str1 {xs ys : Array Value} {f : Field} {a b : ByteArray} (hn : f.name ≠ "_") (hu : P.underlying f.type = some .string) (hx : xs[f.offset]? = some (.string a)) (hy : ys[f.offset]? = some (.string b)) : FE P xs ys [f] (decide (a = b)) := by
  have := FE.str hn hu hx hy (FE.nil (P := P) (xs := xs) (ys := ys))
  simpa using this
end
theorem boxX_outer {w0 : World} {H : List Ent} {i B : Nat} {cs : List Value} {U : TypeId} {pre0 pre : List Ent} {js : List Nat} (hi : H[i]? = some (outer w0 pre0)) (hj : i ∉ js) (hp : js.map (H[·]?) = pre.map some) (h : (box B cs U).A w0 ∧ (outer w0 pre0).S B) : ∀ w, HeapIs w0 H w → (box B cs U).A w ∧ (outer w pre).S B :=
  fun w hw => ⟨rbox_outer hi h w hw, outX hi hj hp h.2 w hw⟩
def SzStr (s : ByteArray) : Prop := s.size ≤ 9223372036854775807
theorem elTy_str {P : Program} {e : TypeId} (hu : P.underlying e = some .string) (hc : P.cellsOf e = 1) : ElTy P e tStr SzStr :=
  ⟨hc, by decide, fun _ _ _ _ _ h => by obtain ⟨z, rfl, _, hw⟩ := DataW.trod_string hu h; exact ⟨z, rfl, hw⟩⟩
end Go.Sx
