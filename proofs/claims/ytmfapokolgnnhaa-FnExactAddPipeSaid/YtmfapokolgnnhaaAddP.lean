/- A network with one more pipe, plainly. -/
import Derived.Test.YtmfapokolgnnhaaNetC
import Derived.Test.YtmfapokolgnnhaaReach
import Derived.Test.YtmfapokolgnnhaaFr
namespace Go.Proofs.Ytmfapokolgnnhaa
open Go.RowKit
set_option linter.unusedVariables false
set_option linter.unusedSimpArgs false

def insAtP (ps : List Pp) (a : Int) : Nat := (ps.takeWhile (fun v => decide (v.id < a))).length
theorem insAtP_at {a : Int} : ∀ {vs : List Pp} {k : Nat}, (∀ j z, j < k → vs[j]? = some z → z.id < a) → k ≤ vs.length → (∀ z, vs[k]? = some z → ¬ z.id < a) → insAtP vs a = k
  | [], k, _, hk, _ => by simp at hk; subst hk; rfl
  | v :: vs, 0, _, _, h => by
    have := h v rfl
    unfold insAtP; rw [List.takeWhile_cons, if_neg (by simpa using this)]; rfl
  | v :: vs, k + 1, h0, hk, h => by
    have h1 := h0 0 v (by omega) rfl
    have ih := insAtP_at (a := a) (vs := vs) (k := k) (fun j z hj hz => h0 (j + 1) z (by omega) (by simpa using hz)) (by simpa using hk) (fun z hz => h z (by simpa using hz))
    unfold insAtP at ih ⊢
    rw [List.takeWhile_cons, if_pos (by simpa using h1), List.length_cons, ih]
def moreP (ps : List Pp) (x : Pp) : List Pp := ps.take (insAtP ps x.id) ++ x :: ps.drop (insAtP ps x.id)
theorem moreP_is {ps : List Pp} {x : Pp} {k : Nat} (h : insAtP ps x.id = k) : moreP ps x = ps.take k ++ x :: ps.drop k := by unfold moreP; rw [h]
theorem moreP_is' {ps : List Pp} {x : Pp} {k : Nat} (h : insAtP ps x.id = k) : moreP ps x = ps.take k ++ [x] ++ ps.drop k := by unfold moreP; rw [h, List.append_assoc]; rfl
theorem moreP_id {m : Int} {ps : List Pp} {x : Pp} (h : goodN m (moreP ps x) = true) : findL ps x.id = -1 := by
  have hr := (good_of h).rise
  refine findL_no (fun z hz e => ?_)
  unfold rises at hr
  unfold moreP at hr
  rw [← List.take_append_drop (insAtP ps x.id) ps] at hz
  have h2 := List.pairwise_append.1 hr
  rcases List.mem_append.1 hz with hz | hz
  · have := h2.2.2 z hz x (List.mem_cons_self ..); omega
  · have := (List.pairwise_cons.1 h2.2.1).1 z hz; omega
def AddPipe_v1 (m : Int) (ps : List Pp) (x : Pp) : Bool := goodN m ps && goodN m (moreP ps x)
def AddPipe_m0 (m : Int) (ps : List Pp) (x : Pp) : Int := if AddPipe_v1 m ps x = true then m else 0
def AddPipe_v0 (m : Int) (ps : List Pp) (x : Pp) : List Pp := if AddPipe_v1 m ps x = true then moreP ps x else []
theorem add_of {m : Int} {ps : List Pp} {x : Pp} {L : List Pp} (h : goodN m ps = true) (hm : moreP ps x = L) (h2 : goodN m L = true) : AddPipe_v1 m ps x = true ∧ AddPipe_m0 m ps x = m ∧ AddPipe_v0 m ps x = L := by
  have h3 : AddPipe_v1 m ps x = true := by unfold AddPipe_v1; rw [h, hm, h2]; rfl
  exact ⟨h3, if_pos h3, (if_pos h3).trans hm⟩
theorem add_off {m : Int} {ps : List Pp} {x : Pp} (h3 : AddPipe_v1 m ps x = false) : AddPipe_v1 m ps x = false ∧ AddPipe_m0 m ps x = 0 ∧ AddPipe_v0 m ps x = [] := ⟨h3, if_neg (by rw [h3]; simp), if_neg (by rw [h3]; simp)⟩
theorem add_no {m : Int} {ps : List Pp} {x : Pp} (h : goodN m ps = false) : AddPipe_v1 m ps x = false ∧ AddPipe_m0 m ps x = 0 ∧ AddPipe_v0 m ps x = [] := add_off (by unfold AddPipe_v1; rw [h]; rfl)
theorem add_two {m : Int} {ps : List Pp} {x : Pp} (h : 0 ≤ findL ps x.id) : AddPipe_v1 m ps x = false ∧ AddPipe_m0 m ps x = 0 ∧ AddPipe_v0 m ps x = [] := add_off (by
  unfold AddPipe_v1
  cases e : goodN m (moreP ps x) with
  | false => rw [Bool.and_false]
  | true => have := moreP_id e; omega)
theorem add_bad {m : Int} {ps : List Pp} {x : Pp} {L : List Pp} (hm : moreP ps x = L) (h : goodN m L = false) : AddPipe_v1 m ps x = false ∧ AddPipe_m0 m ps x = 0 ∧ AddPipe_v0 m ps x = [] := add_off (by unfold AddPipe_v1; rw [hm, h, Bool.and_false])
theorem AddPipe_len (m : Int) (ps : List Pp) (x : Pp) : (AddPipe_v0 m ps x).length ≤ 1048576 := by
  by_cases h : AddPipe_v1 m ps x = true
  · have h2 := h
    unfold AddPipe_v1 at h2
    rw [Bool.and_eq_true] at h2
    have hg := (good_of h2.2).len
    unfold AddPipe_v0
    rw [if_pos h]; omega
  · unfold AddPipe_v0; rw [if_neg h]; simp

end Go.Proofs.Ytmfapokolgnnhaa
