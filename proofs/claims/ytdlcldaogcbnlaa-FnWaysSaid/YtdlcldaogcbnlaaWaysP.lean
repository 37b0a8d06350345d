/- A way is walked, plainly. No program is named here. -/
import Derived.Test.YtdlcldaogcbnlaaReach
import Derived.Test.YtdlcldaogcbnlaaNetA
namespace Go.Proofs.Ytdlcldaogcbnlaa
open Go.RowKit
set_option linter.unusedVariables false

/-- Where a pipe with this number leads from a node; else what was. -/
def nxtP (id u s : Int) (p : Pp) : Int := if p.id = id ∧ p.to = u then p.fr else if p.id = id ∧ p.fr = u then p.to else s
def nxtTo (ps : List Pp) (id u : Int) : Int := ps.foldl (nxtP id u) 0
theorem nxt_take {ps : List Pp} {id u : Int} {k : Nat} {p : Pp} (h : ps[k]? = some p) : nxtTo (ps.take (k + 1)) id u = nxtP id u (nxtTo (ps.take k) id u) p := by
  unfold nxtTo
  rw [List.take_add_one, h, List.foldl_append]; rfl
theorem nxt_none (id u : Int) : ∀ (ps : List Pp) (s : Int), (∀ p, p ∈ ps → p.id ≠ id) → ps.foldl (nxtP id u) s = s
  | [], _, _ => rfl
  | p :: ps, s, h => by
    rw [List.foldl_cons, show nxtP id u s p = s by
      unfold nxtP
      rw [if_neg (fun h9 => h p (List.mem_cons_self ..) h9.1), if_neg (fun h9 => h p (List.mem_cons_self ..) h9.1)]]
    exact nxt_none id u ps s (fun q hq => h q (List.mem_cons_of_mem _ hq))
theorem nxt_one {m : Nat} (u : Int) : ∀ (ps : List Pp) (s : Int) {p : Pp}, ps.Pairwise (fun a b => a.id < b.id) → p ∈ ps → p.fr ≠ p.to → 0 < otherOf p u → ps.foldl (nxtP p.id u) s = otherOf p u
  | [], _, _, _, h, _, _ => by cases h
  | q :: ps, s, p, hr, h, hd, ho => by
    have hr' := List.pairwise_cons.1 hr
    rw [List.foldl_cons]
    rcases List.mem_cons.1 h with e | e
    · subst e
      rw [nxt_none _ _ _ _ (fun x hx e => by have := hr'.1 x hx; omega)]
      rcases other_ends ho with ⟨h1, h2⟩ | ⟨h1, h2⟩
      · unfold nxtP
        rw [if_neg (fun h9 => hd (by rw [h1, h9.2])), if_pos ⟨rfl, h1⟩]
        exact h2
      · unfold nxtP
        rw [if_pos ⟨rfl, h2⟩]
        exact h1
    · exact nxt_one (m := m) u ps _ hr'.2 e hd ho
/-- What is known on the way: so many steps are left, from here. -/
structure Onway (ps : List Pp) (v : Int) (way : List Int) (i : Nat) (u : Int) : Prop where
  d : ∃ k : Nat, distOf (joined ps) v u = k ∧ way.drop i = wayL (distOf (joined ps) v) ps k u
theorem Onway.start {ps : List Pp} {u v : Int} (h : 0 ≤ distOf (joined ps) v u) : Onway ps v (wayL (distOf (joined ps) v) ps (distOf (joined ps) v u).toNat u) 0 u :=
  ⟨⟨(distOf (joined ps) v u).toNat, by omega, by rw [List.drop_zero]⟩⟩
theorem step_of {ps : List Pp} {m : Nat} (hp : pipesIn ps m) {v u : Int} (hu : 0 < distOf (joined ps) v u) :
    ∃ p, p ∈ ps ∧ 0 < otherOf p u ∧ distOf (joined ps) v (otherOf p u) = distOf (joined ps) v u - 1 ∧ stepOf (distOf (joined ps) v) u ps = some (p.id, otherOf p u) := by
  have key : ∀ qs : List Pp, (∃ (i : Nat) (p : Pp), qs[i]? = some p ∧ 0 < otherOf p u ∧ distOf (joined ps) v (otherOf p u) = distOf (joined ps) v u - 1) →
      ∃ p, p ∈ qs ∧ 0 < otherOf p u ∧ distOf (joined ps) v (otherOf p u) = distOf (joined ps) v u - 1 ∧ stepOf (distOf (joined ps) v) u qs = some (p.id, otherOf p u) := by
    intro qs
    induction qs with
    | nil => rintro ⟨i, p, hp, _⟩; simp at hp
    | cons q qs ih =>
      rintro ⟨i, p, hp, h1, h2⟩
      by_cases hq : 0 < otherOf q u ∧ distOf (joined ps) v (otherOf q u) = distOf (joined ps) v u - 1
      · exact ⟨q, List.mem_cons_self .., hq.1, hq.2, by unfold stepOf; rw [if_pos hq]⟩
      · rcases i with _ | i
        · simp at hp; subst hp; exact absurd ⟨h1, h2⟩ hq
        · obtain ⟨p', a, b, c, d⟩ := ih ⟨i, p, by simpa using hp, h1, h2⟩
          exact ⟨p', List.mem_cons_of_mem _ a, b, c, by unfold stepOf; rw [if_neg hq]; exact d⟩
  exact key ps (step_there hp hu)
/-- One step on the way. -/
theorem Onway.next {ps : List Pp} {m : Nat} (hp : pipesIn ps m) (hr : ps.Pairwise (fun a b => a.id < b.id)) {v u x : Int} {way : List Int} {i : Nat} (h : Onway ps v way i u) (hx : way[i]? = some x) : Onway ps v way (i + 1) (nxtTo ps x u) ∧ ∃ p, p ∈ ps ∧ nxtTo ps x u = otherOf p u := by
  obtain ⟨k, hk, hw⟩ := h.d
  have hlt := (List.getElem?_eq_some_iff.1 hx).1
  rw [List.drop_eq_getElem_cons hlt, (List.getElem?_eq_some_iff.1 hx).2] at hw
  cases k with
  | zero => simp [wayL] at hw
  | succ k =>
    obtain ⟨p, hm, ho, hd, hs⟩ := step_of hp (v := v) (u := u) (by omega)
    rw [wayL_succ hs] at hw
    obtain ⟨e1, e2⟩ := List.cons.inj hw
    have e3 : nxtTo ps x u = otherOf p u := by rw [e1]; exact nxt_one (m := m) u ps 0 hr hm (hp p hm).2.2 ho
    exact ⟨⟨⟨k, by rw [e3]; omega, by rw [e3]; exact e2⟩⟩, p, hm, e3⟩
theorem Onway.fin {ps : List Pp} {m : Nat} (hp : pipesIn ps m) {v u : Int} {way : List Int} {i : Nat} (h : Onway ps v way i u) (hi : way.length ≤ i) : u = v := by
  obtain ⟨k, hk, hw⟩ := h.d
  rw [List.drop_eq_nil_of_le hi] at hw
  cases k with
  | zero => exact dist_zero (by omega)
  | succ k =>
    obtain ⟨p, hm, ho, hd, hs⟩ := step_of hp (v := v) (u := u) (by omega)
    rw [wayL_succ hs] at hw; cases hw

end Go.Proofs.Ytdlcldaogcbnlaa
