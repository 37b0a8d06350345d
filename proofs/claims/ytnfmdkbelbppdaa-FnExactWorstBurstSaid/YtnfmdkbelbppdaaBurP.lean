/- Plans, plainly: valves that are shut too, what is cut off, choices, the best one. No program is named here. -/
import Derived.Test.YtnfmdkbelbppdaaValG
import Derived.Test.YtnfmdkbelbppdaaVRow
namespace Go.Proofs.Ytnfmdkbelbppdaa
open Go.RowKit
set_option linter.unusedVariables false

def shutX (plan : List Int) (v : Vv) : Vv := { v with shut := v.shut || plan.contains v.id }
def shutV (vs : List Vv) (plan : List Int) : List Vv := vs.map (shutX plan)
theorem shutV_len (vs : List Vv) (plan : List Int) : (shutV vs plan).length = vs.length := by simp [shutV]
theorem shutV_at {vs : List Vv} {plan : List Int} {k : Nat} {x : Vv} (h : vs[k]? = some x) : (shutV vs plan)[k]? = some (shutX plan x) := by simp [shutV, h]
/-- The valves, those before i shut as the plan wants it. -/
def mixV (vs : List Vv) (plan : List Int) (i : Nat) : List Vv := (shutV vs plan).take i ++ vs.drop i
theorem mixV_zero (vs : List Vv) (plan : List Int) : mixV vs plan 0 = vs := by simp [mixV]
theorem mixV_len (vs : List Vv) (plan : List Int) (i : Nat) : (mixV vs plan i).length = vs.length := by unfold mixV; rw [List.length_append, List.length_take, List.length_drop, shutV_len]; omega
theorem mixV_end {vs : List Vv} {plan : List Int} {i : Nat} (h : vs.length ≤ i) : mixV vs plan i = shutV vs plan := by
  unfold mixV; rw [List.take_of_length_le (by rw [shutV_len]; exact h), List.drop_eq_nil_of_le h, List.append_nil]
theorem mixV_at {vs : List Vv} {plan : List Int} {i : Nat} {x : Vv} (h : vs[i]? = some x) : (mixV vs plan i)[i]? = some x := by
  have hi := (List.getElem?_eq_some_iff.1 h).1
  unfold mixV
  rw [List.getElem?_append_right (by rw [List.length_take, shutV_len]; omega), List.length_take, shutV_len, show i - min i vs.length = 0 by omega, List.getElem?_drop, Nat.add_zero]; exact h
theorem mixV_next {vs : List Vv} {plan : List Int} {i : Nat} {x : Vv} (h : vs[i]? = some x) : mixV vs plan (i + 1) = (mixV vs plan i).set i (shutX plan x) := by
  have hi := (List.getElem?_eq_some_iff.1 h).1
  unfold mixV
  have hd : vs.drop i = x :: vs.drop (i + 1) := by rw [List.drop_eq_getElem_cons hi]; congr 1; exact (List.getElem?_eq_some_iff.1 h).2
  rw [List.take_add_one, shutV_at h, hd, List.set_append_right _ _ (by rw [List.length_take, shutV_len]; omega), List.length_take, shutV_len, show i - min i vs.length = 0 by omega]
  simp
theorem shutX_true {plan : List Int} {x : Vv} (h : x.shut = true ∨ plan.contains x.id = true) : shutX plan x = { x with shut := true } := by
  unfold shutX; rcases h with h | h <;> rw [h] <;> simp
theorem shutX_false {plan : List Int} {x : Vv} (h : x.shut = false) (h' : plan.contains x.id = false) : shutX plan x = { x with shut := false } := by unfold shutX; rw [h, h']; rfl
theorem shutX_no {plan : List Int} {x : Vv} (h : plan.contains x.id = false) : shutX plan x = x := by unfold shutX; rw [h, Bool.or_false]
theorem mixV_skip {vs : List Vv} {plan : List Int} {i : Nat} {x : Vv} (h : vs[i]? = some x) (hc : plan.contains x.id = false) : mixV vs plan (i + 1) = mixV vs plan i := by
  rw [mixV_next h, shutX_no hc]
  apply List.ext_getElem?
  intro j
  have hi := (List.getElem?_eq_some_iff.1 h).1
  by_cases e : j = i
  · subst e; rw [List.getElem?_set_self (by rw [mixV_len]; exact hi), mixV_at h]
  · rw [List.getElem?_set_ne (by omega)]
theorem uniqV_shut {vs : List Vv} (h : uniqV vs) (plan : List Int) : uniqV (shutV vs plan) := fun u v hu hv e1 e2 => by
  obtain ⟨u', hu', rfl⟩ := List.mem_map.1 hu
  obtain ⟨v', hv', rfl⟩ := List.mem_map.1 hv
  rw [h u' v' hu' hv' e1 e2]

/-! ### what is cut off -/

theorem reach_mono {E F : Int → Int → Prop} (h : ∀ a b, E a b → F a b) {a b : Int} (hr : Reach E a b) : Reach F a b :=
  reach_closed (S := fun b => Reach F a b) (reach_refl _ _) (fun b c hb he => reach_step hb (h _ _ he)) hr
theorem openQ_shut {vs : List Vv} {plan : List Int} {p : Pp} {v : Int} : openQ (shutV vs plan) true p v = true ↔ ∀ u, u ∈ vs → u.pipe = p.id → u.node = v → u.shut = false ∧ plan.contains u.id = false := by
  unfold openQ blocked shutV
  rw [Bool.not_eq_true', List.any_map]
  show (vs.any (fun u => decide (u.pipe = p.id) && decide (u.node = v) && (!true || (u.shut || plan.contains u.id)))) = false ↔ _
  rw [List.any_eq_false]
  constructor
  · intro h u hu e1 e2
    have := h u hu
    simp only [Bool.and_eq_true, decide_eq_true_eq, Bool.not_true, Bool.false_or, Bool.or_eq_true, not_and, not_or, Bool.not_eq_true] at this
    exact this ⟨e1, e2⟩
  · intro h u hu
    simp only [Bool.and_eq_true, decide_eq_true_eq, Bool.not_true, Bool.false_or, Bool.or_eq_true, not_and, not_or, Bool.not_eq_true]
    exact fun e => h u hu e.1 e.2
theorem shut_link_mono {ps : List Pp} {vs : List Vv} {plan plan' : List Int} (h : ∀ u, u ∈ vs → u.shut = false → plan.contains u.id = true → plan'.contains u.id = true) {a b : Int} (hl : linked ps (openQ (shutV vs plan') true) a b) : linked ps (openQ (shutV vs plan) true) a b := by
  obtain ⟨i, p, v, hp, hv, hq, he⟩ := hl
  refine ⟨i, p, v, hp, hv, openQ_shut.2 (fun u hu e1 e2 => ?_), he⟩
  have := openQ_shut.1 hq u hu e1 e2
  refine ⟨this.1, ?_⟩
  cases hc : plan.contains u.id with
  | false => rfl
  | true => rw [h u hu this.1 hc] at this; exact this.2
def planLk (ps : List Pp) (vs : List Vv) (plan : List Int) : Int → Int → Prop := linked ps (openQ (shutV vs plan) true)
noncomputable def cutB (ps : List Pp) (vs : List Vv) (s id : Int) (plan : List Int) : Bool := !rb (linked ps (openQ (shutV vs plan) true)) s (9 + findL ps id)
theorem cut_mono {ps : List Pp} {vs : List Vv} {s id : Int} {plan plan' : List Int} (h : ∀ u, u ∈ vs → u.shut = false → plan.contains u.id = true → plan'.contains u.id = true) (hc : cutB ps vs s id plan = true) : cutB ps vs s id plan' = true := by
  unfold cutB at hc ⊢
  rw [Bool.not_eq_true'] at hc ⊢
  rw [← Bool.not_eq_true] at hc ⊢
  intro hr
  exact hc (rb_iff.2 (reach_mono (fun a b => shut_link_mono h) (rb_iff.1 hr)))
/-- The numbers of the valves that are not shut. -/
def openIds (vs : List Vv) : List Int := (vs.filter (fun v => !v.shut)).map (fun v => v.id)
theorem openIds_len (vs : List Vv) : (openIds vs).length ≤ vs.length := by unfold openIds; rw [List.length_map]; exact List.length_filter_le _ _
theorem mem_openIds {vs : List Vv} {a : Int} : a ∈ openIds vs ↔ ∃ v, v ∈ vs ∧ v.shut = false ∧ v.id = a := by
  unfold openIds; rw [List.mem_map]
  constructor
  · rintro ⟨v, hv, e⟩; rw [List.mem_filter] at hv; exact ⟨v, hv.1, by simpa using hv.2, e⟩
  · rintro ⟨v, h1, h2, e⟩; exact ⟨v, List.mem_filter.2 ⟨h1, by simpa using h2⟩, e⟩
theorem openIds_yes {vs : List Vv} {i : Nat} {x : Vv} (hx : vs[i]? = some x) (h : x.shut = false) : openIds (vs.take (i + 1)) = openIds (vs.take i) ++ [x.id] := by
  unfold openIds; rw [List.take_add_one, hx, List.filter_append, List.map_append]; simp [h]
theorem openIds_no {vs : List Vv} {i : Nat} {x : Vv} (hx : vs[i]? = some x) (h : x.shut = true) : openIds (vs.take (i + 1)) = openIds (vs.take i) := by
  unfold openIds; rw [List.take_add_one, hx, List.filter_append, List.map_append]; simp [h]
theorem cut_open {ps : List Pp} {vs : List Vv} {s id : Int} {plan : List Int} (hc : cutB ps vs s id plan = true) : cutB ps vs s id (openIds vs) = true :=
  cut_mono (fun u hu h0 _ => List.contains_iff_mem.2 (mem_openIds.2 ⟨u, hu, h0, rfl⟩)) hc

/-! ### numbers that rise -/

theorem above_at {ps : List Pp} {vs : List Vv} {k : Nat} {u v : Vv} (h : okVTo ps vs vs.length = true) (hu : vs[k]? = some u) (hv : vs[k + 1]? = some v) : u.id < v.id := by
  have h1 := okVTo_at h (List.getElem?_eq_some_iff.1 hv).1
  have := ((okV_iff hv).1 h1).1.2
  rw [above_next hu] at this
  exact of_decide_eq_true this
theorem vids_rise {m : Int} {ps : List Pp} {vs : List Vv} (h : GoodVal m ps vs) : ∀ d k (u v : Vv), vs[k]? = some u → vs[k + d + 1]? = some v → u.id < v.id
  | 0, k, u, v, hu, hv => above_at h.ok hu hv
  | d + 1, k, u, v, hu, hv => by
    have hl := (List.getElem?_eq_some_iff.1 hv).1
    have hm : vs[k + d + 1]? = some vs[k + d + 1] := List.getElem?_eq_getElem (by omega)
    exact Int.lt_trans (vids_rise h d k u _ hu hm) (above_at h.ok hm (by rw [show k + d + 1 + 1 = k + (d + 1) + 1 by omega]; exact hv))
theorem vids_inj {m : Int} {ps : List Pp} {vs : List Vv} (h : GoodVal m ps vs) {u v : Vv} (hu : u ∈ vs) (hv : v ∈ vs) (e : u.id = v.id) : u = v := by
  obtain ⟨i, hi, eu⟩ := List.getElem_of_mem hu
  obtain ⟨j, hj, ev⟩ := List.getElem_of_mem hv
  have hu' : vs[i]? = some u := by rw [List.getElem?_eq_getElem hi, eu]
  have hv' : vs[j]? = some v := by rw [List.getElem?_eq_getElem hj, ev]
  rcases Nat.lt_trichotomy i j with h1 | h1 | h1
  · have := vids_rise h (j - i - 1) i u v hu' (by rw [show i + (j - i - 1) + 1 = j by omega]; exact hv'); omega
  · subst h1; rw [hu'] at hv'; cases hv'; rfl
  · have := vids_rise h (i - j - 1) j v u hv' (by rw [show j + (i - j - 1) + 1 = i by omega]; exact hu'); omega
/-- A number is an open valve's when the first valve with it is there and open. -/
theorem open_first {m : Int} {ps : List Pp} {vs : List Vv} (h : GoodVal m ps vs) {a : Int} {k : Nat} {x : Vv} (hx : vs[k]? = some x) (e : x.id = a) : (openIds vs).contains a = !x.shut := by
  rw [Bool.eq_iff_iff, List.contains_iff_mem, mem_openIds, Bool.not_eq_true']
  constructor
  · rintro ⟨v, hv, h0, e'⟩
    rw [← vids_inj h hv (List.mem_of_getElem? hx) (e'.trans e.symm)]; exact h0
  · intro h0; exact ⟨x, List.mem_of_getElem? hx, h0, e⟩
theorem open_none {vs : List Vv} {a : Int} (h : idxV (fun v => decide (v.id = a)) vs < 0) : (openIds vs).contains a = false := by
  rw [← Bool.not_eq_true, List.contains_iff_mem, mem_openIds]
  rintro ⟨v, hv, _, e⟩
  have h2 : vs.any (fun v => decide (v.id = a)) = false := by rw [← idxV_pos]; exact decide_eq_false (by omega)
  have := List.any_eq_false.1 h2 v hv
  simp [e] at this

end Go.Proofs.Ytnfmdkbelbppdaa
