/- Rows of rows of numbers: read, and of a call's own. No program is named here. -/
import Derived.Test.YtdlcldaogcbnlaaQueue
import Derived.Test.YtdlcldaogcbnlaaSch7
namespace Go.Proofs.Ytdlcldaogcbnlaa
open Go.RowKit
set_option linter.unusedVariables false

/-- A slice's parts. -/
structure Sv where
  A : Option Addr
  n : Nat
  c : Nat
def Sv.val (v : Sv) : Value := .slice v.A v.n v.c
def svV (vs : List Sv) : List Value := vs.map Sv.val
theorem sv_len (vs : List Sv) : (svV vs).length = vs.length := by simp [svV]
theorem sv_at {vs : List Sv} {k : Nat} {v : Sv} (h : vs[k]? = some v) : (svV vs)[k]? = some v.val := by simp [svV, h]
/-- Rows in a row, read. -/
structure RdT (w : World) (A : Option Addr) (n : Nat) (vs : List Sv) (zss : List (List Int)) : Prop where
  out : Rd w 1 A n (svV vs)
  len : vs.length = zss.length
  inn : ∀ (i : Nat) (v : Sv) (zs : List Int), vs[i]? = some v → zss[i]? = some zs → Rd w 1 v.A v.n (intsV zs)
theorem RdT.kept {w w' : World} {A : Option Addr} {n : Nat} {vs : List Sv} {zss : List (List Int)} (h : RdT w A n vs zss) (b : Below w.heap.size w w') : RdT w' A n vs zss :=
  ⟨h.out.kept b, h.len, fun i v zs h1 h2 => (h.inn i v zs h1 h2).kept b⟩
theorem RdT.size {w : World} {A : Option Addr} {n : Nat} {vs : List Sv} {zss : List (List Int)} (h : RdT w A n vs zss) : vs.length = n ∧ zss.length = n := by
  have h1 := h.out.1; rw [sv_len] at h1; have := h.len; omega
/-- A row of rows of the call's own: blocks of their own, each for itself. -/
structure Tab (w : World) (base : Nat) (eo ei : TypeId) (A : Option Addr) (n c : Nat) (vs : List Sv) (zss : List (List Int)) : Prop where
  out : w.ownsRow base eo 1 (.slice A n c) n (svV vs)
  len : vs.length = zss.length
  inn : ∀ (i : Nat) (v : Sv) (zs : List Int), vs[i]? = some v → zss[i]? = some zs → w.ownsRow base ei 1 v.val v.n (intsV zs)
  off : ∀ (i : Nat) (v : Sv), vs[i]? = some v → NbR v.val (.slice A n c)
  sep : ∀ (i j : Nat) (v u : Sv), i ≠ j → vs[i]? = some v → vs[j]? = some u → NbR v.val u.val
section
variable {w w' : World} {base : Nat} {eo ei : TypeId} {A : Option Addr} {n c : Nat} {vs : List Sv} {zss : List (List Int)}
theorem Tab.pair (h : Tab w base eo ei A n c vs zss) {i : Nat} {v : Sv} (hv : vs[i]? = some v) : ∃ zs, zss[i]? = some zs := by
  have := (List.getElem?_eq_some_iff.1 hv).1
  exact ⟨_, List.getElem?_eq_getElem (by have := h.len; omega)⟩
theorem Tab.rd (h : Tab w base eo ei A n c vs zss) : RdT w A n vs zss :=
  ⟨own_rd h.out, h.len, fun i v zs h1 h2 => own_rd (h.inn i v zs h1 h2)⟩
theorem Tab.kept (h : Tab w base eo ei A n c vs zss) (b : Below w.heap.size w w') : Tab w' base eo ei A n c vs zss :=
  ⟨own_kept h.out b, h.len, fun i v zs h1 h2 => own_kept (h.inn i v zs h1 h2) b, h.off, h.sep⟩
theorem Tab.grown (h : Tab w base eo ei A n c vs zss) {row : Option Nat} (hg : w.grownBy w' row) (hr : ∀ j, row = some j → j < base) : Tab w' base eo ei A n c vs zss :=
  ⟨own_grown h.out hg (fun j e1 e2 => by have := (World.ownsRow.lt h.out j e1).1; have := hr j e2; omega), h.len,
   fun i v zs h1 h2 => own_grown (h.inn i v zs h1 h2) hg (fun j e1 e2 => by have := (World.ownsRow.lt (h.inn i v zs h1 h2) j e1).1; have := hr j e2; omega), h.off, h.sep⟩
theorem Tab.heap (h : Tab w base eo ei A n c vs zss) (e : w'.heap = w.heap) : Tab w' base eo ei A n c vs zss :=
  ⟨own_heap h.out e, h.len, fun i v zs h1 h2 => own_heap (h.inn i v zs h1 h2) e, h.off, h.sep⟩
theorem Tab.lower (h : Tab w base eo ei A n c vs zss) {base' : Nat} (hb : base' ≤ base) : Tab w base' eo ei A n c vs zss :=
  ⟨own_base h.out hb, h.len, fun i v zs h1 h2 => own_base (h.inn i v zs h1 h2) hb, h.off, h.sep⟩
theorem Tab.lt (h : Tab w base eo ei A n c vs zss) : ∀ j, (Value.slice A n c).ownBlock = some j → base ≤ j ∧ j < w.heap.size := World.ownsRow.lt h.out
theorem Tab.inlt (h : Tab w base eo ei A n c vs zss) {i : Nat} {v : Sv} (hv : vs[i]? = some v) : ∀ j, v.val.ownBlock = some j → base ≤ j ∧ j < w.heap.size := by
  obtain ⟨zs, hz⟩ := h.pair hv
  exact World.ownsRow.lt (h.inn i v zs hv hz)
theorem Tab.none (h : w.ownsRow base eo 1 (.slice A n c) 0 []) (hn : n = 0) : Tab w base eo ei A n c [] [] :=
  ⟨by subst hn; exact h, rfl, fun i v zs h1 => by simp at h1, fun i v h1 => by simp at h1, fun i j v u _ h1 => by simp at h1⟩
theorem at_snoc {α : Type} {l : List α} {x y : α} {i : Nat} (h : (l ++ [x])[i]? = some y) : l[i]? = some y ∨ i = l.length ∧ y = x := by
  rcases Nat.lt_trichotomy i l.length with h1 | h1 | h1
  · rw [List.getElem?_append_left h1] at h; exact .inl h
  · subst h1; simp at h; exact .inr ⟨rfl, h.symm⟩
  · rw [List.getElem?_append_right (by omega), List.getElem?_eq_none (by simp; omega)] at h; cases h
/-- One row more: the outer row has grown by an append. -/
theorem Tab.snoc {A' : Option Addr} {c' : Nat} {v : Sv} {zs : List Int} (h : Tab w base eo ei A n c vs zss) (hv : w.ownsRow base ei 1 v.val v.n (intsV zs)) (ho : NbR v.val (.slice A n c)) (hs : ∀ (i : Nat) (u : Sv), vs[i]? = some u → NbR v.val u.val)
    (hnew : w'.ownsRow base eo 1 (.slice A' (n + 1) c') (n + 1) (svV vs ++ [v.val])) (hg : w.grownBy w' (Value.slice A n c).ownBlock) (hat : (Value.slice A' (n + 1) c').ownBlock = (Value.slice A n c).ownBlock ∨ ∀ k, (Value.slice A' (n + 1) c').ownBlock = some k → w.heap.size ≤ k) :
    Tab w' base eo ei A' (n + 1) c' (vs ++ [v]) (zss ++ [zs]) := by
  have fr : ∀ u : Sv, NbR u.val (.slice A n c) → (∀ j, u.val.ownBlock = some j → base ≤ j ∧ j < w.heap.size) → NbR u.val (.slice A' (n + 1) c') := fun u h1 h2 j e1 e2 => by
    rcases hat with h3 | h3
    · exact h1 j e1 (h3.symm.trans e2)
    · have := h3 j e2; have := (h2 j e1).2; omega
  refine ⟨by simpa [svV] using hnew, by rw [List.length_append, List.length_append, h.len]; rfl, ?_, ?_, ?_⟩
  · intro i u ys h1 h2
    have hl := h.len
    rcases at_snoc h1 with h3 | ⟨h3, rfl⟩
    · have h4 := (List.getElem?_eq_some_iff.1 h3).1
      rw [List.getElem?_append_left (by omega)] at h2
      exact own_grown (h.inn i u ys h3 h2) hg (fun j e1 e2 => h.off i u h3 j e1 e2)
    · rw [h3, hl, List.getElem?_append_right (by omega)] at h2
      simp at h2; subst h2
      exact own_grown hv hg (fun j e1 e2 => ho j e1 e2)
  · intro i u h1
    rcases at_snoc h1 with h3 | ⟨h3, rfl⟩
    · exact fr u (h.off i u h3) (h.inlt h3)
    · exact fr _ ho (World.ownsRow.lt hv)
  · intro i j u y hij h1 h2
    rcases at_snoc h1 with h3 | ⟨h3, rfl⟩
    · rcases at_snoc h2 with h4 | ⟨h4, rfl⟩
      · exact h.sep i j u y hij h3 h4
      · exact NbR.symm (hs i u h3)
    · rcases at_snoc h2 with h4 | ⟨h4, rfl⟩
      · exact hs j y h4
      · omega
/-- One row has turned: the others stand. -/
theorem Tab.turn {i : Nat} {v : Sv} {zs ys : List Int} (h : Tab w base eo ei A n c vs zss) (hv : vs[i]? = some v) (hz : zss[i]? = some zs) (hnew : w'.ownsRow base ei 1 v.val v.n (intsV ys)) (hg : w.grownBy w' v.val.ownBlock) :
    Tab w' base eo ei A n c vs (zss.set i ys) := by
  refine ⟨own_grown h.out hg (fun j e1 e2 => h.off i v hv j e2 e1), by rw [List.length_set]; exact h.len, ?_, h.off, h.sep⟩
  intro k u xs h1 h2
  by_cases hk : k = i
  · subst hk
    obtain rfl := Option.some.inj (hv.symm.trans h1)
    rw [List.getElem?_set_self (List.getElem?_eq_some_iff.1 hz).1] at h2
    obtain rfl := Option.some.inj h2
    exact hnew
  · rw [List.getElem?_set_ne (by omega)] at h2
    exact own_grown (h.inn k u xs h1 h2) hg (fun j e1 e2 => h.sep k i u v hk h1 hv j e1 e2)
end

end Go.Proofs.Ytdlcldaogcbnlaa
