/- The nodes that are connected with a node: the reference's list. -/
import Derived.Test.YtnfmdkbelbppdaaPut
namespace Go.Proofs.Ytnfmdkbelbppdaa
open Go.RowKit
set_option linter.unusedVariables false

theorem putL_same {n : Int} : ∀ {zs : List Int}, sorted zs → n ∈ zs → putL zs n = zs
  | [], _, h => by cases h
  | z :: zs, hs, h => by
    have h' := List.pairwise_cons.1 hs
    unfold putL
    rcases List.mem_cons.1 h with e | e
    · rw [if_neg (by omega), if_pos e.symm]
    · have := h'.1 n e
      rw [if_pos this, putL_same h'.2 e]
theorem putL_len_le (zs : List Int) (n : Int) : (putL zs n).length ≤ zs.length + 1 := by
  induction zs with
  | nil => simp [putL]
  | cons z zs ih => unfold putL; split
                    · simp; omega
                    · split <;> simp
theorem putL_len_ge (zs : List Int) (n : Int) : zs.length ≤ (putL zs n).length := by
  induction zs with
  | nil => simp [putL]
  | cons z zs ih => unfold putL; split
                    · simp; omega
                    · split <;> simp
theorem put2_len {ys : List Int} {a c : Int} (h : ys.contains a ≠ ys.contains c) : ys.length < (putL (putL ys a) c).length := by
  by_cases ha : a ∈ ys
  · have hc : c ∉ ys := fun hc => h (by rw [List.contains_iff_mem.2 ha, List.contains_iff_mem.2 hc])
    have hc' : c ∉ putL ys a := fun hm => by
      rcases (mem_putL c a ys).1 hm with e | e
      · subst e; exact hc ha
      · exact hc e
    have := putL_len_ge ys a
    rw [putL_len hc']; omega
  · have := putL_len_ge (putL ys a) c
    rw [putL_len ha] at this; omega
/-- What the reference's search keeps. -/
structure Fnd (ps : List Pp) (m : Nat) (v : Int) (ys : List Int) : Prop where
  s : sorted ys
  h0 : v ∈ ys
  r : ∀ b, b ∈ ys → Reach (joined ps) v b
theorem Fnd.len {ps : List Pp} {m : Nat} {v : Int} {ys : List Int} (h : Fnd ps m v ys) (hp : pipesIn ps m) (hv : 1 ≤ v ∧ v ≤ m) : ys.length ≤ m :=
  sorted_len h.s (fun b hb => reach_in (joined_in hp) hv (h.r b hb))
theorem Fnd.start (ps : List Pp) (m : Nat) (v : Int) : Fnd ps m v [v] := ⟨by simp [sorted], by simp, fun b hb => by simp at hb; subst hb; exact reach_refl _ _⟩
theorem Fnd.put {ps : List Pp} {m : Nat} {v : Int} {ys : List Int} (h : Fnd ps m v ys) {k : Nat} {x : Pp} (hx : ps[k]? = some x) (hne : ys.contains x.fr ≠ ys.contains x.to) : Fnd ps m v (putL (putL ys x.fr) x.to) := by
  refine ⟨sorted_putL _ _ (sorted_putL _ _ h.s), (mem_putL _ _ _).2 (.inr ((mem_putL _ _ _).2 (.inr h.h0))), fun b hb => ?_⟩
  have hj : joined ps x.fr x.to := ⟨x, List.mem_of_getElem? hx, .inl ⟨rfl, rfl⟩⟩
  have hone : x.fr ∈ ys ∨ x.to ∈ ys := by
    by_cases h1 : x.fr ∈ ys
    · exact .inl h1
    · by_cases h2 : x.to ∈ ys
      · exact .inr h2
      · exact absurd (by rw [show ys.contains x.fr = false by simpa using h1, show ys.contains x.to = false by simpa using h2]) hne
  have hr : Reach (joined ps) v x.fr ∧ Reach (joined ps) v x.to := by
    rcases hone with h1 | h1
    · exact ⟨h.r _ h1, reach_step (h.r _ h1) hj⟩
    · exact ⟨reach_step (h.r _ h1) (joined_symm ps _ _ hj), h.r _ h1⟩
  rcases (mem_putL _ _ _).1 hb with e | e
  · rw [e]; exact hr.2
  · rcases (mem_putL _ _ _).1 e with e | e
    · rw [e]; exact hr.1
    · exact h.r b e
/-- Closed under the pipes before i. -/
def shutTo (ps : List Pp) (ys : List Int) (i : Nat) : Prop := ∀ j p, j < i → ps[j]? = some p → (p.fr ∈ ys ↔ p.to ∈ ys)
theorem shutTo.next {ps : List Pp} {ys : List Int} {i : Nat} {x : Pp} (h : shutTo ps ys i) (hx : ps[i]? = some x) (he : ys.contains x.fr = ys.contains x.to) : shutTo ps ys (i + 1) := by
  unfold shutTo at h ⊢
  exact upto_succ (Q := fun p => p.fr ∈ ys ↔ p.to ∈ ys) h hx (by rw [← List.contains_iff_mem, ← List.contains_iff_mem, he])
theorem Fnd.fin {ps : List Pp} {m : Nat} {v : Int} {ys : List Int} (h : Fnd ps m v ys) (hp : pipesIn ps m) (hv : 1 ≤ v ∧ v ≤ m) (hc : shutTo ps ys ps.length) : ys = reachList (joined ps) m v := by
  refine reachList_of (joined_in hp) hv h.s h.h0 h.r (fun b c hb hj => ?_)
  obtain ⟨p, hm, he⟩ := hj
  obtain ⟨i, hi, hg⟩ := List.getElem_of_mem hm
  have := hc i p hi (by rw [List.getElem?_eq_getElem hi, hg])
  rcases he with ⟨rfl, rfl⟩ | ⟨rfl, rfl⟩
  · exact this.1 hb
  · exact this.2 hb

end Go.Proofs.Ytnfmdkbelbppdaa
