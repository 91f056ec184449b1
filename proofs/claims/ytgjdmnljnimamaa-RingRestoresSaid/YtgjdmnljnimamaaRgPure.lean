/- Rings of points: the plain functions. -/
import Derived.Test.YtgjdmnljnimamaaExLaw
namespace Go.Sx
structure DPoint where
  at_ : Int
  shard : Int
deriving DecidableEq
instance : Inhabited DPoint := ⟨⟨0, 0⟩⟩
def tPoint : Ty DPoint := ⟨2, fun c => [.int .i64 c.at_, .int .i64 c.shard], fun _ => rfl⟩
namespace Rg
def okAt (n : Int) : Bool := decide (0 ≤ n) && decide (n < 65536)
def okShard (n : Int) : Bool := decide (0 ≤ n) && decide (n < 20)
def okPoint (p : DPoint) : Bool := okShard p.shard && okAt p.at_
def checkGo (last : Int) : List DPoint → Int
  | [] => 0
  | p :: l => if okPoint p = false then 3 else if p.at_ ≤ last then 4 else checkGo p.at_ l
def check (l : List DPoint) : Int := if 60 < l.length then 2 else checkGo (-1) l
def le_ (l : List DPoint) : Prop := l.Pairwise fun a b => a.at_ < b.at_
/-- points that are right, in order -/
structure Fine (l : List DPoint) : Prop where
  point : ∀ p ∈ l, okPoint p = true
  sorted : le_ l
structure Ok (l : List DPoint) : Prop where
  len : l.length ≤ 60
  fine : Fine l
theorem okPoint_iff {p : DPoint} : okPoint p = true ↔ (0 ≤ p.shard ∧ p.shard < 20) ∧ 0 ≤ p.at_ ∧ p.at_ < 65536 := by simp [okPoint, okShard, okAt]
theorem checkGo_ok : ∀ (l : List DPoint) (last : Int), checkGo last l = 0 ↔ (∀ p ∈ l, okPoint p = true) ∧ (∀ p ∈ l, last < p.at_) ∧ le_ l
  | [], last => by simp [checkGo, le_]
  | x :: l, last => by
    rw [checkGo]
    by_cases h1 : okPoint x = false
    · rw [if_pos h1]; simp [h1]
    · rw [if_neg h1]
      by_cases h2 : x.at_ ≤ last
      · rw [if_pos h2]
        refine ⟨fun h => absurd h (by decide), fun h => ?_⟩
        have := h.2.1 x (by simp); omega
      · rw [if_neg h2, checkGo_ok l]
        have h1' : okPoint x = true := by simpa using h1
        simp only [le_, List.mem_cons, List.pairwise_cons]
        constructor
        · rintro ⟨a, b, c⟩
          refine ⟨by rintro y (rfl | hy); exact h1'; exact a y hy, ?_, b, c⟩
          rintro y (rfl | hy)
          · omega
          · have := b y hy; omega
        · rintro ⟨a, b, c, d⟩
          exact ⟨fun y hy => a y (.inr hy), c, d⟩
theorem check_ok {l : List DPoint} : check l = 0 ↔ Ok l := by
  unfold check
  constructor
  · intro e
    split at e
    · cases e
    · have := (checkGo_ok _ _).1 e
      exact ⟨by omega, this.1, this.2.2⟩
  · rintro ⟨a, b, c⟩
    rw [if_neg (by omega)]
    exact (checkGo_ok _ _).2 ⟨b, fun p hp => by have := okPoint_iff.1 (b p hp); omega, c⟩
abbrev low (l : List DPoint) (a : Int) : Nat := lowF (fun x : DPoint => cmpI x.at_ a) l
abbrev hit (l : List DPoint) (a : Int) : Bool := hitF (fun x : DPoint => cmpI x.at_ a) l
def ownIx (l : List DPoint) (a : Int) : Nat := if low l a = l.length then 0 else low l a
def ownGo (l : List DPoint) (a : Int) : Int := (l.getD (ownIx l a) default).shard
def ownErr (l : List DPoint) (a : Int) : Int := if check l = 0 then (if okAt a then (if l.length = 0 then 5 else 0) else 3) else check l
def owner (l : List DPoint) (a : Int) : Int := if ownErr l a = 0 then ownGo l a else 0
def ins (l : List DPoint) (p : DPoint) : List DPoint := l.take (low l p.at_) ++ [p] ++ l.drop (low l p.at_)
def addGo (s : Int) (out : List DPoint) : List Int → Option (List DPoint)
  | [] => some out
  | a :: ps => if hit out a = true then none else addGo s (ins out ⟨a, s⟩) ps
def rightAdd (s : Int) (ps : List Int) : Bool := okShard s && !(ps.any fun a => !okAt a)
def addErr (l : List DPoint) (s : Int) (ps : List Int) : Int :=
  if check l = 0 then (if rightAdd s ps then (match addGo s l ps with | none => 6 | some o => if 60 < o.length then 2 else 0) else 3) else check l
def add (l : List DPoint) (s : Int) (ps : List Int) : List DPoint := if addErr l s ps = 0 then (addGo s l ps).getD [] else []
def dropS (l : List DPoint) (s : Int) : List DPoint := l.filter fun p => !(p.shard == s)
def remErr (l : List DPoint) (s : Int) : Int := if check l = 0 then (if (dropS l s).length = l.length then 5 else 0) else check l
def rem (l : List DPoint) (s : Int) : List DPoint := if remErr l s = 0 then dropS l s else []
def shGo (s : Int) (last : Int) : List DPoint → Int
  | [] => 0
  | p :: l => (if p.shard = s then p.at_ - last else 0) + shGo s p.at_ l
def begun (l : List DPoint) : Int := (l.getD (l.length - 1) default).at_ - 65536
def share (l : List DPoint) (s : Int) : Int := shGo s (begun l) l
def shares20 (l : List DPoint) : List Int := (List.range 20).map fun s => share l (s : Nat)
def shErr (l : List DPoint) (n : Int) : Int := if check l = 0 then (if 1 ≤ n ∧ n ≤ 20 then (if l.length = 0 then 5 else 0) else 3) else check l
def shares (l : List DPoint) (n : Int) : List Int := if shErr l n = 0 then (shares20 l).take n.toNat else []
end Rg
end Go.Sx
