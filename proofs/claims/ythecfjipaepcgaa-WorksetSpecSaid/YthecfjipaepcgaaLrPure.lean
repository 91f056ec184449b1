/- Least recently used: the plain functions. -/
import Derived.Test.YthecfjipaepcgaaLbPure
namespace Go.Sx
structure DCache where
  room : Int
  keys : List Int
deriving DecidableEq
namespace Lru
def check (c : DCache) : Int := if okRoom c.room = false then 3 else if c.room < (c.keys.length : Int) then 2 else keys c.keys
/-- A cache that may be touched. -/
structure Ok (c : DCache) : Prop where
  room : 1 ≤ c.room ∧ c.room ≤ 40
  len : (c.keys.length : Int) ≤ c.room
  key : ∀ k ∈ c.keys, okKey k = true
  once : c.keys.Nodup
theorem check_ok {c : DCache} : check c = 0 ↔ Ok c := by
  unfold check
  constructor
  · intro e
    split at e
    · cases e
    · split at e
      · cases e
      · rename_i h1 h2
        have h3 := keys_ok.1 e
        simp [okRoom] at h1
        exact ⟨by omega, by omega, h3.1, h3.2⟩
  · rintro ⟨a, b, c, d⟩
    rw [if_neg (by simp [okRoom]; omega), if_neg (by omega)]
    exact keys_ok.2 ⟨c, d⟩
theorem ok_of {c : DCache} (h : check c = 0) : Ok c := check_ok.1 h
def front (room : Nat) (l : List Int) (k : Int) : List Int := (k :: l.erase k).take room
def gone (room : Int) (l : List Int) (k : Int) : Int := if k ∉ l ∧ (l.length : Int) = room then l.getLastD (-1) else -1
def touch (c : DCache) (key : Int) : DCache × Bool × Int := (⟨c.room, front c.room.toNat c.keys key⟩, decide (key ∈ c.keys), gone c.room c.keys key)
def zero : DCache := ⟨0, []⟩
def accessErr (c : DCache) (key : Int) : Int := if check c = 0 then (if okKey key then 0 else 3) else check c
def access (c : DCache) (key : Int) : DCache × Bool × Int := if accessErr c key = 0 then touch c key else (zero, false, 0)
def runGo (c : DCache) (n : Int) : List Int → DCache × Int
  | [] => (c, n)
  | k :: l => runGo (touch c k).1 (if (touch c k).2.1 then n + 1 else n) l
def runErr (c : DCache) (l : List Int) : Int := if check c = 0 then trace l else check c
def run (c : DCache) (l : List Int) : DCache × Int := if runErr c l = 0 then runGo c 0 l else (zero, 0)
def sizeErr (c : DCache) (room : Int) : Int := if check c = 0 then (if okRoom room then 0 else 3) else check c
def resize (c : DCache) (room : Int) : DCache × List Int := if sizeErr c room = 0 then (⟨room, c.keys.take room.toNat⟩, (c.keys.drop room.toNat).reverse) else (zero, [])
end Lru
end Go.Sx
