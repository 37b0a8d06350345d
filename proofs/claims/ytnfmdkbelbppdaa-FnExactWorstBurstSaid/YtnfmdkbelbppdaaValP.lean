/- Valves, plainly: which lists are valid, what is blocked, what is connected. No program is named here. -/
import Derived.Test.YtnfmdkbelbppdaaValves
import Derived.Test.YtnfmdkbelbppdaaNetC
namespace Go.Proofs.Ytnfmdkbelbppdaa
open Go.RowKit
set_option linter.unusedVariables false

theorem Rd.elValve {w : World} {A : Option Addr} {n : Nat} {ps : List Vv} (h : Rd w 4 A n (valvesV ps)) {k : Nat} {x : Vv} (hx : ps[k]? = some x) :
    ∃ b off, A = some ⟨b, off, none⟩ ∧ b < w.heap.size ∧ w.cell? ⟨b, off + k * 4, none⟩ = some (.int .i64 x.id) ∧ w.cell? ⟨b, off + k * 4 + 1, none⟩ = some (.int .i64 x.pipe) ∧ w.cell? ⟨b, off + k * 4 + 2, none⟩ = some (.int .i64 x.node) ∧ w.cell? ⟨b, off + k * 4 + 3, none⟩ = some (.bool x.shut) := by
  have hk : k < n := by have h1 := (List.getElem?_eq_some_iff.1 hx).1; have h2 := h.1; rw [valvesV_len] at h2; omega
  obtain ⟨b, off, y, e, hb, hy, r⟩ := h.atValve hk
  obtain rfl := Option.some.inj (hy.symm.trans hx)
  exact ⟨b, off, e, hb, r⟩
theorem rd_valves_len {w : World} {A : Option Addr} {n : Nat} {ps : List Vv} (h : Rd w 4 A n (valvesV ps)) : ps.length = n := by have := h.1; rw [valvesV_len] at this; omega

/-! ### valid lists -/

/-- A pipe and a node are its end. -/
def endAt (ps : List Pp) (k : Int) (node : Int) : Bool := if 0 ≤ k then match ps[k.toNat]? with | some p => decide (p.fr = node) || decide (p.to = node) | none => false else false
/-- A valve is at this place. -/
def placed (vs : List Vv) (pipe node : Int) : Bool := vs.any (fun u => decide (u.pipe = pipe) && decide (u.node = node))
def above (vs : List Vv) (i : Nat) (v : Vv) : Bool := if i = 0 then true else match vs[i - 1]? with | some u => decide (u.id < v.id) | none => true
def okV (ps : List Pp) (vs : List Vv) (i : Nat) : Bool := match vs[i]? with
  | some v => inB v.id 1 99 && above vs i v && endAt ps (findL ps v.pipe) v.node && !placed (vs.take i) v.pipe v.node
  | none => true
def okVTo (ps : List Pp) (vs : List Vv) : Nat → Bool
  | 0 => true
  | k + 1 => okVTo ps vs k && okV ps vs k
def goodV (m : Int) (ps : List Pp) (vs : List Vv) : Bool := goodN m ps && (decide (vs.length ≤ 10) && okVTo ps vs vs.length)
theorem okVTo_bad {ps : List Pp} {vs : List Vv} {k : Nat} (h : okV ps vs k = false) : ∀ n, k < n → okVTo ps vs n = false
  | 0, hk => absurd hk (by omega)
  | n + 1, hk => by
    by_cases e : k = n
    · subst e; unfold okVTo; rw [h]; simp
    · unfold okVTo; rw [okVTo_bad h n (by omega)]; rfl
theorem goodV_bad {m : Int} {ps : List Pp} {vs : List Vv} {k : Nat} (hk : k < vs.length) (h : okV ps vs k = false) : goodV m ps vs = false := by
  unfold goodV; rw [okVTo_bad h _ hk]; simp
theorem okVTo_next {ps : List Pp} {vs : List Vv} {k : Nat} (h : okVTo ps vs k = true) (h' : okV ps vs k = true) : okVTo ps vs (k + 1) = true := by unfold okVTo; rw [h, h']; rfl
theorem okVTo_at {ps : List Pp} {vs : List Vv} : ∀ {n k : Nat}, okVTo ps vs n = true → k < n → okV ps vs k = true
  | 0, k, _, hk => absurd hk (by omega)
  | n + 1, k, h, hk => by
    unfold okVTo at h
    rw [Bool.and_eq_true] at h
    by_cases e : k = n
    · subst e; exact h.2
    · exact okVTo_at h.1 (by omega)
theorem goodV_fin {m : Int} {ps : List Pp} {vs : List Vv} (hg : goodN m ps = true) (hl : vs.length ≤ 10) (h : okVTo ps vs vs.length = true) : goodV m ps vs = true := by
  unfold goodV; rw [hg, h, decide_eq_true hl]; rfl
theorem goodV_out {m : Int} {ps : List Pp} {vs : List Vv} (h : goodN m ps = false ∨ 10 < vs.length) : goodV m ps vs = false := by
  unfold goodV
  rcases h with h | h
  · rw [h]; rfl
  · rw [decide_eq_false (by omega)]; simp
theorem okV_iff {ps : List Pp} {vs : List Vv} {i : Nat} {v : Vv} (hv : vs[i]? = some v) : okV ps vs i = true ↔ ((1 ≤ v.id ∧ v.id ≤ 99) ∧ above vs i v = true) ∧ endAt ps (findL ps v.pipe) v.node = true ∧ placed (vs.take i) v.pipe v.node = false := by
  unfold okV
  rw [hv]
  simp only [Bool.and_eq_true, inB_iff, Bool.not_eq_true', and_assoc]

/-! ### what is blocked, what is connected -/

/-- A valve (a shut one, if only those count) is between the pipe and the node. -/
def blocked (vs : List Vv) (pipe node : Int) (only : Bool) : Bool := vs.any (fun u => decide (u.pipe = pipe) && decide (u.node = node) && (!only || u.shut))
/-- Elements that are joined: a node by its number, a pipe by nine and its index. -/
def linked (ps : List Pp) (q : Pp → Int → Bool) (a b : Int) : Prop := ∃ (i : Nat) (p : Pp) (v : Int), ps[i]? = some p ∧ (v = p.fr ∨ v = p.to) ∧ q p v = true ∧ ((a = v ∧ b = 9 + (i : Int)) ∨ (a = 9 + (i : Int) ∧ b = v))
theorem linked_symm (ps : List Pp) (q : Pp → Int → Bool) : Symm (linked ps q) := by
  rintro a b ⟨i, p, v, h1, h2, h3, h4⟩
  exact ⟨i, p, v, h1, h2, h3, h4.symm.imp (fun h => ⟨h.2, h.1⟩) (fun h => ⟨h.2, h.1⟩)⟩

end Go.Proofs.Ytnfmdkbelbppdaa
