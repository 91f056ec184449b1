/- Segmented caches: the plain functions. -/
import Derived.Test.YtkndekkacimekaaLrLaw
namespace Go.Sx
structure DHalls where
  first : Int
  second : Int
  young : List Int
  old : List Int
deriving DecidableEq
namespace Seg
open Lru (okKey trace okRoom)
def check (h : DHalls) : Int :=
  if okRoom h.first = false ∨ okRoom h.second = false then 3 else if h.first < (h.young.length : Int) ∨ h.second < (h.old.length : Int) then 2 else Lru.keys (h.young ++ h.old)
structure Ok (h : DHalls) : Prop where
  first : 1 ≤ h.first ∧ h.first ≤ 40
  second : 1 ≤ h.second ∧ h.second ≤ 40
  len1 : (h.young.length : Int) ≤ h.first
  len2 : (h.old.length : Int) ≤ h.second
  key : ∀ k ∈ h.young ++ h.old, okKey k = true
  once : (h.young ++ h.old).Nodup
theorem check_ok {h : DHalls} : check h = 0 ↔ Ok h := by
  unfold check
  constructor
  · intro e
    split at e
    · cases e
    · split at e
      · cases e
      · rename_i h1 h2
        have h3 := Lru.keys_ok.1 e
        simp [okRoom] at h1
        exact ⟨by omega, by omega, by omega, by omega, h3.1, h3.2⟩
  · rintro ⟨a, b, c, d, e, f⟩
    rw [if_neg (by simp [okRoom]; omega), if_neg (by omega)]
    exact Lru.keys_ok.2 ⟨e, f⟩
theorem ok_of {h : DHalls} (e : check h = 0) : Ok h := check_ok.1 e
def touch (h : DHalls) (key : Int) : DHalls × Bool × List Int :=
  if key ∈ h.old ∨ key ∈ h.young then (⟨h.first, h.second, h.young.erase key, (key :: h.old.erase key).take h.second.toNat⟩, true, (key :: h.old.erase key).drop h.second.toNat)
  else (⟨h.first, h.second, (key :: h.young).take h.first.toNat, h.old⟩, false, (key :: h.young).drop h.first.toNat)
def zero : DHalls := ⟨0, 0, [], []⟩
def accessErr (c : DHalls) (key : Int) : Int := if check c = 0 then (if okKey key then 0 else 3) else check c
def access (c : DHalls) (key : Int) : DHalls × Bool × List Int := if accessErr c key = 0 then touch c key else (zero, false, [])
def runGo (c : DHalls) (n : Int) : List Int → DHalls × Int
  | [] => (c, n)
  | k :: l => runGo (touch c k).1 (if (touch c k).2.1 then n + 1 else n) l
def runErr (c : DHalls) (l : List Int) : Int := if check c = 0 then trace l else check c
def run (c : DHalls) (l : List Int) : DHalls × Int := if runErr c l = 0 then runGo c 0 l else (zero, 0)
def flat (c : DHalls) : List Int := if check c = 0 then c.young ++ c.old else []
theorem Ok.touch {c : DHalls} (h : Ok c) {key : Int} (hk : okKey key = true) : Ok (touch c key).1 := by
  obtain ⟨a, b, d, e, f, g⟩ := h
  rw [List.nodup_append] at g
  obtain ⟨g1, g2, g3⟩ := g
  unfold Seg.touch
  split
  · rename_i hm
    refine ⟨a, b, ?_, ?_, ?_, ?_⟩
    · have := List.length_erase_le (a := key) (l := c.young); simp only; omega
    · have := List.length_take_le c.second.toNat (key :: c.old.erase key); simp only; omega
    · intro k hk2
      rcases List.mem_append.1 hk2 with h | h
      · exact f k (List.mem_append_left _ (List.mem_of_mem_erase h))
      · rcases List.mem_cons.1 (List.mem_of_mem_take h) with rfl | h
        · exact hk
        · exact f k (List.mem_append_right _ (List.mem_of_mem_erase h))
    · rw [List.nodup_append]
      refine ⟨g1.erase _, ?_, ?_⟩
      · refine List.Nodup.sublist (List.take_sublist _ _) (List.nodup_cons.2 ⟨fun h => ?_, g2.erase _⟩)
        exact absurd rfl (g2.mem_erase_iff.1 h).1
      · intro x hx y hy e
        subst e
        rcases List.mem_cons.1 (List.mem_of_mem_take hy) with rfl | h
        · exact absurd rfl (g1.mem_erase_iff.1 hx).1
        · exact g3 x (List.mem_of_mem_erase hx) x (List.mem_of_mem_erase h) rfl
  · rename_i hm
    have hm1 : key ∉ c.old := fun h => hm (.inl h)
    have hm2 : key ∉ c.young := fun h => hm (.inr h)
    refine ⟨a, b, ?_, e, ?_, ?_⟩
    · have := List.length_take_le c.first.toNat (key :: c.young); simp only; omega
    · intro k hk2
      rcases List.mem_append.1 hk2 with h | h
      · rcases List.mem_cons.1 (List.mem_of_mem_take h) with rfl | h
        · exact hk
        · exact f k (List.mem_append_left _ h)
      · exact f k (List.mem_append_right _ h)
    · rw [List.nodup_append]
      refine ⟨List.Nodup.sublist (List.take_sublist _ _) (List.nodup_cons.2 ⟨hm2, g1⟩), g2, ?_⟩
      intro x hx y hy e
      subst e
      rcases List.mem_cons.1 (List.mem_of_mem_take hx) with rfl | h
      · exact hm1 hy
      · exact g3 x h x hy rfl
end Seg
end Go.Sx
