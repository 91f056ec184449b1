/- Depths and levels: what the law of the whole says. -/
import Derived.Test.YtkndekkacimekaaTiLaw
import Derived.Test.YtkndekkacimekaaDpLaw3
namespace Go.Sx.Tier
theorem depths {near far : Int} {l : List Int} (h1 : Lru.trace l = 0) (h2 : runErr ⟨near, far, [], []⟩ l = 0) : (Deep.hitsR l).length = 40 ∧ 1 ≤ near ∧ near ≤ 20 ∧ 1 ≤ far ∧ far ≤ 20 ∧
    (∀ hj : (near - 1).toNat < (Deep.hitsR l).length, (run ⟨near, far, [], []⟩ l).2.1 = (Deep.hitsR l)[(near - 1).toNat]) ∧ (∀ hj : (near + far - 1).toNat < (Deep.hitsR l).length, (run ⟨near, far, [], []⟩ l).2.1 + (run ⟨near, far, [], []⟩ l).2.2 = (Deep.hitsR l)[(near + far - 1).toNat]) := by
  obtain ⟨n1, n2, _⟩ := near_law h2
  obtain ⟨m1, _, m3, _, m5⟩ := merged_law h2
  have ho := ok_of m5
  have e1 := (Deep.lru_hits h1 n1).2
  have e2 := (Deep.lru_hits (r := near + far) h1 m1).2
  have hn := ho.near; have hf := ho.far
  refine ⟨Deep.hitsR_len h1, hn.1, hn.2, hf.1, hf.2, fun hj => ?_, fun hj => ?_⟩
  · rw [e1 hj]; exact n2
  · rw [e2 hj]; exact m3
end Go.Sx.Tier
