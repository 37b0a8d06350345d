/- Plans, plainly: what the public functions answer. No program is named here. -/
import Derived.Test.YtnfmdkbelbppdaaCut
namespace Go.Proofs.Ytnfmdkbelbppdaa
open Go.RowKit
set_option linter.unusedVariables false
set_option linter.unusedSimpArgs false

theorem riseTo_at {lo hi : Int} {zs : List Int} : ∀ {n k : Nat}, riseTo lo hi zs n = true → k < n → okI lo hi zs k = true
  | 0, k, _, hk => absurd hk (by omega)
  | n + 1, k, h, hk => by
    unfold riseTo at h
    rw [Bool.and_eq_true] at h
    by_cases e : k = n
    · subst e; exact h.2
    · exact riseTo_at h.1 (by omega)
theorem riseL_len {zs : List Int} (h : riseL 1 99 zs = true) : zs.length ≤ 99 := by
  have key : ∀ (k : Nat) (z : Int), zs[k]? = some z → (k : Int) + 1 ≤ z ∧ z ≤ 99 := by
    intro k
    induction k with
    | zero =>
      intro z hz
      have := riseTo_at h (List.getElem?_eq_some_iff.1 hz).1
      rw [okI_zero hz, inB_iff] at this; omega
    | succ k ih =>
      intro z hz
      have hk := (List.getElem?_eq_some_iff.1 hz).1
      have hy : zs[k]? = some zs[k] := List.getElem?_eq_getElem (by omega)
      have := riseTo_at h hk
      rw [okI_next hz hy, Bool.and_eq_true, inB_iff, decide_eq_true_eq] at this
      have := ih _ hy
      omega
  by_cases h0 : zs.length = 0
  · omega
  · have := key (zs.length - 1) zs[zs.length - 1] (List.getElem?_eq_getElem (by omega))
    omega
def planAll (vs : List Vv) (pl : List Int) : Bool := pl.all (fun a => (openIds vs).contains a)
theorem planAll_no {vs : List Vv} {pl : List Int} {k : Nat} {z : Int} (hz : pl[k]? = some z) (h : (openIds vs).contains z = false) : planAll vs pl = false := by
  unfold planAll; rw [List.all_eq_false]; exact ⟨z, List.mem_of_getElem? hz, by rw [h]; simp⟩
theorem planAll_yes {vs : List Vv} {pl : List Int} {n k : Nat} (hl : pl.length = n) (h : ∀ j z, j < k → pl[j]? = some z → (openIds vs).contains z = true) (hk : n ≤ k) : planAll vs pl = true := by
  unfold planAll; rw [List.all_eq_true]
  intro z hz
  obtain ⟨j, hj, e⟩ := List.getElem_of_mem hz
  exact h j z (by omega) (by rw [List.getElem?_eq_getElem hj, e])
noncomputable def IsPlan_v0 (m : Int) (ps : List Pp) (vs : List Vv) (s id : Int) (pl : List Int) : Bool := canB m ps vs s id && (riseL 1 99 pl && (planAll vs pl && cutB ps vs s id pl))
theorem IsPlan_of {m : Int} {ps : List Pp} {vs : List Vv} {s id : Int} {pl : List Int} (h : IsPlan_v0 m ps vs s id pl = true) : canB m ps vs s id = true ∧ riseL 1 99 pl = true ∧ planAll vs pl = true ∧ cutB ps vs s id pl = true := by
  unfold IsPlan_v0 at h; simp only [Bool.and_eq_true] at h; exact ⟨h.1, h.2.1, h.2.2.1, h.2.2.2⟩
noncomputable def HarmOf_v1 (m : Int) (ps : List Pp) (vs : List Vv) (s id : Int) (pl cs : List Int) : Bool := IsPlan_v0 m ps vs s id pl && custOk m cs
noncomputable def HarmOf_v0 (m : Int) (ps : List Pp) (vs : List Vv) (s id : Int) (pl cs : List Int) : Int := if HarmOf_v1 m ps vs s id pl cs = true then harmL ps vs s cs pl else 0

end Go.Proofs.Ytnfmdkbelbppdaa
