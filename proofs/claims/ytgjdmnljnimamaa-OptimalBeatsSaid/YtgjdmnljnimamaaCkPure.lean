/- The clock algorithm: the plain functions. -/
import Derived.Test.YtgjdmnljnimamaaLbPure
namespace Go.Sx
structure DFrame where
  key : Int
  used : Bool
deriving DecidableEq
instance : Inhabited DFrame := ⟨⟨0, false⟩⟩
def tFrame : Ty DFrame := ⟨2, fun c => [.int .i64 c.key, .bool c.used], fun _ => rfl⟩
structure DClock where
  room : Int
  hand : Int
  frames : List DFrame
deriving DecidableEq
namespace Clock
def keysOf (l : List DFrame) : List Int := l.map (·.key)
def keysTo (l : List DFrame) (k : Nat) : List Int := keysOf (l.take k) ++ List.replicate (l.length - k) 0
theorem keysTo_zero (l : List DFrame) : List.replicate l.length 0 = keysTo l 0 := by simp [keysTo, keysOf]
theorem keysTo_length {l : List DFrame} {k : Nat} (h : k ≤ l.length) : (keysTo l k).length = l.length := by simp [keysTo, keysOf]; omega
theorem keysTo_succ {l : List DFrame} {k : Nat} (h : k < l.length) : (keysTo l k).set k l[k].key = keysTo l (k + 1) := by
  unfold keysTo keysOf
  rw [List.take_succ_eq_append_getElem h, List.map_append, List.append_assoc]
  have hl : ((l.take k).map (·.key)).length = k := by simp; omega
  rw [List.set_append, if_neg (by omega), hl, Nat.sub_self, show l.length - k = (l.length - (k + 1)) + 1 by omega, List.replicate_succ]
  rfl
theorem keysTo_next {l : List DFrame} {out : List Int} {k : Nat} (h : k < l.length) (e : out = keysTo l k) : out.set k l[k].key = keysTo l (k + 1) := by subst e; exact keysTo_succ h
theorem keys_end {l out : List _} {k : Nat} (h : l.length ≤ k) (hI : out = keysTo l k) : out = keysOf l := by
  rw [hI]; unfold keysTo; rw [List.take_of_length_le h, Nat.sub_eq_zero_of_le h]; simp
def check (c : DClock) : Int :=
  if Lru.okRoom c.room = false then 3 else if c.room < (c.frames.length : Int) then 2 else if Lru.keys (keysOf c.frames) ≠ 0 then Lru.keys (keysOf c.frames)
  else if c.hand < 0 ∨ max 0 ((c.frames.length : Int) - 1) < c.hand then 4 else 0
/-- A clock that may be touched. -/
structure Ok (c : DClock) : Prop where
  room : 1 ≤ c.room ∧ c.room ≤ 40
  len : (c.frames.length : Int) ≤ c.room
  hand0 : 0 ≤ c.hand
  hand1 : c.hand ≤ max 0 ((c.frames.length : Int) - 1)
theorem ok_of {c : DClock} (h : check c = 0) : Ok c := by
  unfold check at h
  repeat' split at h
  all_goals first | (cases h; done) | skip
  · contradiction
  · rename_i h1 h2 h3 h4
    simp only [Lru.okRoom] at h1
    simp at h1
    exact ⟨by omega, by omega, by omega, by omega⟩
def spin (fuel : Nat) (l : List DFrame) (h : Nat) : List DFrame × Nat :=
  match fuel with
  | 0 => (l, h)
  | f + 1 => if (l.getD h default).used then spin f (l.set h ⟨(l.getD h default).key, false⟩) ((h + 1) % l.length) else (l, h)
def touch (c : DClock) (key : Int) : DClock × Bool × Int :=
  if 0 ≤ idxF (fun f => f.key == key) c.frames then (⟨c.room, c.hand, c.frames.set (idxF (fun f => f.key == key) c.frames).toNat ⟨(c.frames.getD (idxF (fun f => f.key == key) c.frames).toNat default).key, true⟩⟩, true, -1)
  else if (c.frames.length : Int) < c.room then (⟨c.room, c.hand, c.frames ++ [⟨key, false⟩]⟩, false, -1)
  else (⟨c.room, (((spin c.frames.length c.frames c.hand.toNat).2 + 1) % c.frames.length : Nat), (spin c.frames.length c.frames c.hand.toNat).1.set (spin c.frames.length c.frames c.hand.toNat).2 ⟨key, false⟩⟩, false, ((spin c.frames.length c.frames c.hand.toNat).1.getD (spin c.frames.length c.frames c.hand.toNat).2 default).key)
def accessErr (c : DClock) (key : Int) : Int := if check c = 0 then (if Lru.okKey key then 0 else 3) else check c
def zero : DClock := ⟨0, 0, []⟩
def access (c : DClock) (key : Int) : DClock × Bool × Int := if accessErr c key = 0 then touch c key else (zero, false, 0)
def runGo (c : DClock) (n : Int) : List Int → DClock × Int
  | [] => (c, n)
  | k :: l => runGo (touch c k).1 (if (touch c k).2.1 then n + 1 else n) l
def runErr (c : DClock) (l : List Int) : Int := if check c = 0 then Lru.trace l else check c
def run (c : DClock) (l : List Int) : DClock × Int := if runErr c l = 0 then runGo c 0 l else (zero, 0)
def unused (l : List DFrame) : List DFrame := l.map fun f => ⟨f.key, false⟩
def clear (c : DClock) : DClock := if check c = 0 then ⟨c.room, c.hand, unused c.frames⟩ else zero
end Clock
end Go.Sx
