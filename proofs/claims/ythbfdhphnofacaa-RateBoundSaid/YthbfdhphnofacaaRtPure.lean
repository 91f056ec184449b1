/- Token buckets: the plain functions. -/
import Derived.Test.YthbfdhphnofacaaSx9
namespace Go.Sx
structure DBucket where
  most : Int
  every : Int
  has : Int
  at_ : Int
def tBucket : Ty DBucket := ⟨4, fun c => [.int .i64 c.most, .int .i64 c.every, .int .i64 c.has, .int .i64 c.at_], fun _ => rfl⟩
abbrev wr (z : Int) : Int := IntKind.i64.wrap z
namespace Rate
def zero : DBucket := ⟨0, 0, 0, 0⟩
def tick (n : Int) : Bool := decide (0 ≤ n) && decide (n ≤ 1099511627776)
def some_ (n : Int) : Bool := decide (1 ≤ n) && decide (n ≤ 1048576)
def between (n a b : Int) : Bool := decide (a ≤ n) && decide (n ≤ b)
def bad (b : DBucket) : Prop := ¬ (1 ≤ b.most ∧ b.most ≤ 1048576) ∨ ¬ (1 ≤ b.every ∧ b.every ≤ 1048576) ∨ b.has < 0 ∨ b.most < b.has ∨ ¬ (0 ≤ b.at_ ∧ b.at_ ≤ 1099511627776)
instance (b : DBucket) : Decidable (bad b) := by unfold bad; infer_instance
def check0 (b : DBucket) : Int := if bad b then 3 else 0
def check (b : DBucket) (at_ : Int) : Int := if bad b then 3 else if ¬ (0 ≤ at_ ∧ at_ ≤ 1099511627776) then 3 else if at_ < b.at_ then 4 else 0
def full (most every at_ : Int) : DBucket := ⟨most, every, most, at_⟩
def new (most every at_ : Int) : DBucket := if check0 (full most every at_) = 0 then full most every at_ else zero
def come (b : DBucket) (at_ : Int) : Int := IntKind.i64.wrap ((IntKind.i64.wrap (at_ - b.at_)).tdiv b.every)
def gone (b : DBucket) (at_ : Int) : DBucket :=
  if b.most ≤ IntKind.i64.wrap (b.has + come b at_) then ⟨b.most, b.every, b.most, at_⟩ else ⟨b.most, b.every, IntKind.i64.wrap (b.has + come b at_), IntKind.i64.wrap (b.at_ + IntKind.i64.wrap (come b at_ * b.every))⟩
def advance (b : DBucket) (at_ : Int) : DBucket := if check b at_ = 0 then gone b at_ else zero
def err (b : DBucket) (at_ many : Int) : Int := if check b at_ = 0 then (if 1 ≤ many ∧ many ≤ 1048576 then 0 else 3) else check b at_
def can (b : DBucket) (at_ many : Int) : Bool := if err b at_ many = 0 then decide (many ≤ (gone b at_).has) else false
def take (b : DBucket) (at_ many : Int) : DBucket := if err b at_ many = 0 then (if many ≤ (gone b at_).has then ⟨(gone b at_).most, (gone b at_).every, IntKind.i64.wrap ((gone b at_).has - many), (gone b at_).at_⟩ else gone b at_) else zero
def whenAt (b : DBucket) (at_ many : Int) : Int := max at_ (IntKind.i64.wrap ((gone b at_).at_ + IntKind.i64.wrap (IntKind.i64.wrap (many - (gone b at_).has) * (gone b at_).every)))
def whenErr (b : DBucket) (at_ many : Int) : Int := if err b at_ many = 0 then (if (gone b at_).most < many then 5 else if 0 ≤ whenAt b at_ many ∧ whenAt b at_ many ≤ 1099511627776 then 0 else 5) else err b at_ many
def when_ (b : DBucket) (at_ many : Int) : Int := if whenErr b at_ many = 0 then whenAt b at_ many else 0
def left (b : DBucket) (at_ : Int) : Int := IntKind.i64.wrap (at_ - b.at_)
def rest (b : DBucket) (at_ : Int) : Int := (left b at_).tmod b.every
def rgo (b : DBucket) (at_ : Int) : DBucket :=
  if IntKind.i64.wrap (IntKind.i64.wrap (b.most - b.has) * b.every) ≤ IntKind.i64.wrap (left b at_ - rest b at_) then ⟨b.most, b.every, b.most, at_⟩
  else ⟨b.most, b.every, IntKind.i64.wrap (b.has + IntKind.i64.wrap ((IntKind.i64.wrap (left b at_ - rest b at_)).tdiv b.every)), IntKind.i64.wrap (at_ - rest b at_)⟩
theorem check0_every {b : DBucket} (h : check0 b = 0) : b.every ≠ 0 := by
  unfold check0 at h; split at h
  · cases h
  · rename_i hb; unfold bad at hb; omega
theorem check_every {b : DBucket} {at_ : Int} (h : check b at_ = 0) : b.every ≠ 0 := by
  unfold check at h; split at h
  · cases h
  · rename_i hb; unfold bad at hb; omega
end Rate
end Go.Sx
