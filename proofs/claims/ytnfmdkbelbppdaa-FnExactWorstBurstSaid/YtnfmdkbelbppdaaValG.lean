/- What valid valves are, plainly. No program is named here. -/
import Derived.Test.YtnfmdkbelbppdaaSegI
import Derived.Test.YtnfmdkbelbppdaaGood4
namespace Go.Proofs.Ytnfmdkbelbppdaa
open Go.RowKit
set_option linter.unusedVariables false

structure GoodVal (m : Int) (ps : List Pp) (vs : List Vv) : Prop where
  net : GoodNet m ps
  good : goodN m ps = true
  len : vs.length ≤ 10
  uniq : uniqV vs
  place : ∀ v, v ∈ vs → ∃ (k : Nat) (p : Pp), findL ps v.pipe = (k : Int) ∧ k < ps.length ∧ ps[k]? = some p ∧ (p.fr = v.node ∨ p.to = v.node)
  ids : ∀ v, v ∈ vs → 1 ≤ v.id ∧ v.id ≤ 99
  ok : okVTo ps vs vs.length = true
theorem goodV_of {m : Int} {ps : List Pp} {vs : List Vv} (h : goodV m ps vs = true) : GoodVal m ps vs := by
  have h0 := h
  unfold goodV at h
  simp only [Bool.and_eq_true, decide_eq_true_iff] at h
  obtain ⟨h1, h2, h3⟩ := h
  have hat : ∀ i v, vs[i]? = some v → ((1 ≤ v.id ∧ v.id ≤ 99) ∧ above vs i v = true) ∧ endAt ps (findL ps v.pipe) v.node = true ∧ placed (vs.take i) v.pipe v.node = false := fun i v hv =>
    (okV_iff hv).1 (okVTo_at h3 (List.getElem?_eq_some_iff.1 hv).1)
  have hone : ∀ i j (u v : Vv), i < j → vs[i]? = some u → vs[j]? = some v → u.pipe = v.pipe → u.node = v.node → False := fun i j u v hij hu hv e1 e2 => by
    have := (hat j v hv).2.2
    rw [placed_yes hu hij e1 e2] at this; cases this
  refine ⟨good_of h1, h1, h2, fun u v hu hv e1 e2 => ?_, fun v hv => ?_, fun v hv => ?_, h3⟩
  · obtain ⟨i, hi, eu⟩ := List.getElem_of_mem hu
    obtain ⟨j, hj, ev⟩ := List.getElem_of_mem hv
    have hu' : vs[i]? = some u := by rw [List.getElem?_eq_getElem hi, eu]
    have hv' : vs[j]? = some v := by rw [List.getElem?_eq_getElem hj, ev]
    rcases Nat.lt_trichotomy i j with h | h | h
    · exact (hone i j u v h hu' hv' e1 e2).elim
    · subst h; rw [hu'] at hv'; cases hv'; rfl
    · exact (hone j i v u h hv' hu' e1.symm e2.symm).elim
  · obtain ⟨j, hj, ev⟩ := List.getElem_of_mem hv
    obtain ⟨h0, p, hp, he⟩ := endAt_pos (hat j v (by rw [List.getElem?_eq_getElem hj, ev])).2.1
    exact ⟨(findL ps v.pipe).toNat, p, by omega, (List.getElem?_eq_some_iff.1 hp).1, hp, he⟩
  · obtain ⟨j, hj, ev⟩ := List.getElem_of_mem hv
    exact (hat j v (by rw [List.getElem?_eq_getElem hj, ev])).1.1
theorem GoodVal.lens {m : Int} {ps : List Pp} {vs : List Vv} (h : GoodVal m ps vs) : pipesIn ps m.toNat ∧ (1 ≤ m ∧ m ≤ 8) ∧ ps.length ≤ 10 := ⟨h.net.pipesIn, ⟨h.net.lo, h.net.hi⟩, h.net.len⟩

end Go.Proofs.Ytnfmdkbelbppdaa
