/- Least frequently used: the plain functions. -/
import Derived.Test.YtgjdmnljnimamaaLbPure
namespace Go.Sx
structure DUse where
  key : Int
  count : Int
deriving DecidableEq
instance : Inhabited DUse := ⟨⟨0, 0⟩⟩
def tUse : Ty DUse := ⟨2, fun c => [.int .i64 c.key, .int .i64 c.count], fun _ => rfl⟩
structure DUses where
  room : Int
  list : List DUse
deriving DecidableEq
namespace Lfu
def keysOf (l : List DUse) : List Int := l.map (·.key)
def okCount (x : DUse) : Bool := decide (1 ≤ x.count) && decide (x.count ≤ 1099511627776)
def check (u : DUses) : Int :=
  if Lru.okRoom u.room = false then 3 else if u.room < (u.list.length : Int) then 2 else if Lru.keys (keysOf u.list) ≠ 0 then Lru.keys (keysOf u.list)
  else if u.list.any (fun x => !okCount x) then 3 else 0
/-- What may be touched. -/
structure Ok (u : DUses) : Prop where
  room : 1 ≤ u.room ∧ u.room ≤ 40
  len : (u.list.length : Int) ≤ u.room
  key : ∀ x ∈ u.list, Lru.okKey x.key = true
  once : (keysOf u.list).Nodup
  count : ∀ x ∈ u.list, 1 ≤ x.count ∧ x.count ≤ 1099511627776
theorem check_ok {u : DUses} : check u = 0 ↔ Ok u := by
  unfold check
  constructor
  · intro e
    repeat' split at e
    all_goals first | (exact absurd e (by decide)) | skip
    · contradiction
    · rename_i h1 h2 h3 h4
      have h5 := Lru.keys_ok.1 (Decidable.not_not.1 h3)
      simp [Lru.okRoom] at h1
      refine ⟨by omega, by omega, fun x hx => h5.1 _ (List.mem_map_of_mem hx), h5.2, fun x hx => ?_⟩
      have := List.any_eq_false.1 (Bool.not_eq_true _ ▸ h4) x hx
      simpa [okCount] using this
  · rintro ⟨a, b, c, d, e⟩
    have h5 : Lru.keys (keysOf u.list) = 0 := Lru.keys_ok.2 ⟨fun k hk => by obtain ⟨x, hx, rfl⟩ := List.mem_map.1 hk; exact c x hx, d⟩
    rw [if_neg (by simp [Lru.okRoom]; omega), if_neg (by omega), if_neg (by simp [h5]), if_neg]
    rw [Bool.not_eq_true, List.any_eq_false]
    intro x hx
    have := e x hx
    simp [okCount]; omega
theorem ok_of {u : DUses} (h : check u = 0) : Ok u := check_ok.1 h
def leastTo (l : List DUse) : Nat → Nat
  | 0 => 0
  | k + 1 => if (l.getD k default).count ≤ (l.getD (leastTo l k) default).count then k else leastTo l k
def least (l : List DUse) : Nat := leastTo l l.length
abbrev at_ (l : List DUse) (key : Int) : Int := idxF (fun x : DUse => (x.key == key)) l
def cap (n : Int) : Int := min (n + 1) 1099511627776
def touch (u : DUses) (key : Int) : DUses × Bool × Int :=
  if 0 ≤ at_ u.list key then (⟨u.room, ⟨(u.list.getD (at_ u.list key).toNat default).key, cap (u.list.getD (at_ u.list key).toNat default).count⟩ :: u.list.eraseIdx (at_ u.list key).toNat⟩, true, -1)
  else if (u.list.length : Int) = u.room then (⟨u.room, ⟨key, 1⟩ :: u.list.eraseIdx (least u.list)⟩, false, (u.list.getD (least u.list) default).key)
  else (⟨u.room, ⟨key, 1⟩ :: u.list⟩, false, -1)
def zero : DUses := ⟨0, []⟩
def accessErr (u : DUses) (key : Int) : Int := if check u = 0 then (if Lru.okKey key then 0 else 3) else check u
def access (u : DUses) (key : Int) : DUses × Bool × Int := if accessErr u key = 0 then touch u key else (zero, false, 0)
def runGo (u : DUses) (n : Int) : List Int → DUses × Int
  | [] => (u, n)
  | k :: l => runGo (touch u k).1 (if (touch u k).2.1 then n + 1 else n) l
def runErr (u : DUses) (l : List Int) : Int := if check u = 0 then Lru.trace l else check u
def run (u : DUses) (l : List Int) : DUses × Int := if runErr u l = 0 then runGo u 0 l else (zero, 0)
def old (x : DUse) : DUse := ⟨x.key, max 1 (x.count.tdiv 2)⟩
def age (u : DUses) : DUses := if check u = 0 then ⟨u.room, u.list.map old⟩ else zero
def victimErr (u : DUses) : Int := if check u = 0 then (if u.list.length = 0 then 5 else 0) else check u
def victim (u : DUses) : Int := if victimErr u = 0 then (u.list.getD (least u.list) default).key else 0
end Lfu
end Go.Sx
