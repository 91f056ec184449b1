/- Duplicate suppression: the plain functions. -/
import Derived.Test.YthbfdhphnofacaaSx8
namespace Go.Sx
structure DCall where
  key : Int
  at_ : Int
  long : Int
def tCall : Ty DCall := ⟨3, fun c => [.int .i64 c.key, .int .i64 c.at_, .int .i64 c.long], fun _ => rfl⟩
structure DLoad where
  who : Int
  ends : Int
def tLoad : Ty DLoad := ⟨2, fun c => [.int .i64 c.who, .int .i64 c.ends], fun _ => rfl⟩

namespace Lru
def okKey (n : Int) : Bool := decide (0 ≤ n) && decide (n ≤ 1048576)
end Lru
namespace Ref
def between (n a b : Int) : Bool := decide (a ≤ n) && decide (n ≤ b)
end Ref
namespace Flight
def bad (c : DCall) : Prop := ¬ (0 ≤ c.key ∧ c.key ≤ 1048576) ∨ c.at_ < 0 ∨ 1099511627776 < c.at_ ∨ c.long < 1 ∨ 1073741824 < c.long
instance (c : DCall) : Decidable (bad c) := by unfold bad; infer_instance
def checkFrom (last : Int) : List DCall → Int
  | [] => 0
  | c :: l => if bad c then 3 else if c.at_ < last then 4 else checkFrom c.at_ l
def check (l : List DCall) : Int := if 60 < l.length then 2 else checkFrom 0 l
def dLoad : DLoad := ⟨0, 0⟩
def veLoad (x : DLoad) : Value := .agg #[.int .i64 x.who, .int .i64 x.ends]
/-- Does a new load begin? -/
def fresh (m : List (Int × DLoad)) (c : DCall) : Bool := !(AL.get m c.key).isSome || decide (((AL.get m c.key).getD dLoad).ends ≤ c.at_)
def planGo (i : Int) (m : List (Int × DLoad)) : List DCall → List DLoad
  | [] => []
  | c :: l => if fresh m c then ⟨i, IntKind.i64.wrap (c.at_ + c.long)⟩ :: planGo (i + 1) (AL.set m c.key ⟨i, IntKind.i64.wrap (c.at_ + c.long)⟩) l else (AL.get m c.key).getD dLoad :: planGo (i + 1) m l
def plan (l : List DCall) : List DLoad := planGo 0 [] l
theorem planGo_new {l : List DCall} {k : Nat} {m : List (Int × DLoad)} (hk : k < l.length) (h : (AL.get m l[k].key).isSome = false ∨ ((AL.get m l[k].key).getD dLoad).ends ≤ l[k].at_) :
    planGo k m (l.drop k) = ⟨k, IntKind.i64.wrap (l[k].at_ + l[k].long)⟩ :: planGo ((k + 1 : Nat) : Int) (AL.set m l[k].key ⟨k, IntKind.i64.wrap (l[k].at_ + l[k].long)⟩) (l.drop (k + 1)) := by
  rw [List.drop_eq_getElem_cons hk, planGo, if_pos (by unfold fresh; simpa using h)]; rfl
theorem planGo_old {l : List DCall} {k : Nat} {m : List (Int × DLoad)} (hk : k < l.length) (h : (AL.get m l[k].key).isSome = true ∧ l[k].at_ < ((AL.get m l[k].key).getD dLoad).ends) :
    planGo k m (l.drop k) = (AL.get m l[k].key).getD dLoad :: planGo ((k + 1 : Nat) : Int) m (l.drop (k + 1)) := by
  rw [List.drop_eq_getElem_cons hk, planGo, if_neg (by unfold fresh; obtain ⟨h1, h2⟩ := h; simp [h1, Int.not_le.2 h2])]; rfl
theorem planGo_length (l : List DCall) : ∀ i m, (planGo i m l).length = l.length := by
  induction l with
  | nil => intros; rfl
  | cons c l ih => intro i m; simp only [planGo]; split <;> simp [ih]
theorem plan_length (l : List DCall) : (plan l).length = l.length := planGo_length l _ _
theorem check_len {l : List DCall} (h : check l = 0) : l.length ≤ 60 := by
  unfold check at h; split at h
  · cases h
  · omega
theorem check_len' {l : List DCall} (h : check l = 0) : l.length ≤ 1000000 := by have := check_len h; omega

def who (l : List DCall) : List Int := if check l = 0 then (plan l).map (·.who) else []
def when_ (l : List DCall) : List Int := if check l = 0 then (plan l).map (·.ends) else []
def countOwn (i : Int) : List DLoad → Int
  | [] => 0
  | x :: l => if x.who = i then 1 + countOwn (i + 1) l else countOwn (i + 1) l
def loads (l : List DCall) : Int := if check l = 0 then countOwn 0 (plan l) else 0
def activeErr (l : List DCall) (at_ : Int) : Int := if check l = 0 then (if at_ < 0 ∨ 1099511627776 < at_ then 3 else 0) else check l
def activeGo (at_ : Int) (i : Int) : List DCall → List DLoad → List Int
  | c :: l, x :: p => if x.who = i ∧ c.at_ ≤ at_ ∧ at_ < x.ends then i :: activeGo at_ (i + 1) l p else activeGo at_ (i + 1) l p
  | _, _ => []
def active (l : List DCall) (at_ : Int) : List Int := if activeErr l at_ = 0 then activeGo at_ 0 l (plan l) else []
end Flight
namespace Ref
def sameInts (a b : List Int) : Bool := decide (a = b)
def hasInt (l : List Int) (n : Int) : Bool := decide (n ∈ l)
instance : Inhabited DCall := ⟨⟨0, 0, 0⟩⟩
def whoHit (l : List DCall) (out : List Int) (i k : Nat) : Bool := out.getD k 0 == (k : Int) && (l.getD k default).key == (l.getD i default).key && decide (IntKind.i64.wrap ((l.getD i default).at_ - (l.getD k default).at_) < (l.getD k default).long)
def whoScan (l : List DCall) (out : List Int) (i : Nat) : Nat → Int
  | 0 => i
  | k + 1 => if whoHit l out i k then k else whoScan l out i k
def crowdTo (l : List DCall) : Nat → List Int
  | 0 => []
  | i + 1 => crowdTo l i ++ [whoScan l (crowdTo l i) i i]
def crowdWho (l : List DCall) : List Int := crowdTo l l.length
theorem crowdTo_length (l : List DCall) : ∀ i, (crowdTo l i).length = i
  | 0 => rfl
  | i + 1 => by simp [crowdTo, crowdTo_length l i]
end Ref
end Go.Sx
