/- Valid valves, plainly: lemmas. No program is named here. -/
import Derived.Test.YtnfmdkbelbppdaaVal
import Derived.Test.YtnfmdkbelbppdaaSch7
namespace Go.Proofs.Ytnfmdkbelbppdaa
open Go.RowKit
set_option linter.unusedVariables false

theorem findL_lt (ps : List Pp) (v : Int) : -1 ≤ findL ps v ∧ findL ps v < (ps.length : Int) := by
  induction ps with
  | nil => unfold findL; simp
  | cons p ps ih => unfold findL; rw [List.length_cons]; split <;> (try split) <;> omega
theorem above_zero {vs : List Vv} {v : Vv} : above vs 0 v = true := rfl
theorem above_next {vs : List Vv} {k : Nat} {u v : Vv} (h : vs[k]? = some u) : above vs (k + 1) v = decide (u.id < v.id) := by unfold above; rw [if_neg (by omega), Nat.add_sub_cancel, h]
theorem endAt_pos {ps : List Pp} {k v : Int} (h : endAt ps k v = true) : 0 ≤ k ∧ ∃ p, ps[k.toNat]? = some p ∧ (p.fr = v ∨ p.to = v) := by
  unfold endAt at h
  split at h
  · rename_i h0
    split at h
    · rename_i p hp; exact ⟨h0, p, hp, by simpa using h⟩
    · cases h
  · cases h
theorem endAt_of {ps : List Pp} {k v : Int} {p : Pp} (h0 : 0 ≤ k) (hp : ps[k.toNat]? = some p) (h : p.fr = v ∨ p.to = v) : endAt ps k v = true := by
  unfold endAt; rw [if_pos h0, hp]; simpa using h
theorem placed_yes {vs : List Vv} {j k : Nat} {z : Vv} {a b : Int} (hz : vs[j]? = some z) (hj : j < k) (h1 : z.pipe = a) (h2 : z.node = b) : placed (vs.take k) a b = true := by
  unfold placed
  exact List.any_eq_true.2 ⟨z, List.mem_of_getElem? (by rw [List.getElem?_take_of_lt hj]; exact hz), by simp [h1, h2]⟩
theorem placed_no {vs : List Vv} {j k : Nat} {a b : Int} (h : ∀ i z, i < j → vs[i]? = some z → ¬ (z.pipe = a ∧ z.node = b)) (hk : k ≤ j) : placed (vs.take k) a b = false := by
  unfold placed
  refine List.any_eq_false.2 (fun z hz => ?_)
  obtain ⟨i, hi, e⟩ := List.getElem_of_mem hz
  rw [List.length_take] at hi
  rw [List.getElem_take] at e
  have := h i z (by omega) (by rw [List.getElem?_eq_getElem (by omega), e])
  simpa using this

end Go.Proofs.Ytnfmdkbelbppdaa
