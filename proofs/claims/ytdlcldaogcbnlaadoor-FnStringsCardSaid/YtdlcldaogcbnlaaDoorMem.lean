/- What a slice's cells hold ('Rd'), how that passes on to later worlds, and how it is read; pipes and valves as plain data. No program is named here. -/
import Derived.Test.YtdlcldaogcbnlaaDoorBase
import Derived.Laws.OwnMore
import Derived.OpenShut
namespace Go.Proofs.YtdlcldaogcbnlaaDoor
open Go.RowKit
set_option linter.unusedVariables false

/-! ### plain lists -/

theorem list_of_all {α : Type} (Q : Nat → α → Prop) : ∀ n, (∀ i, i < n → ∃ a, Q i a) → ∃ l : List α, l.length = n ∧ ∀ i a, l[i]? = some a → Q i a
  | 0, _ => ⟨[], rfl, fun i a h => by simp at h⟩
  | n + 1, h => by
    obtain ⟨l, hl, hq⟩ := list_of_all Q n (fun i hi => h i (by omega))
    obtain ⟨a, ha⟩ := h n (by omega)
    refine ⟨l ++ [a], by simp [hl], fun i b hb => ?_⟩
    by_cases hi : i < l.length
    · rw [List.getElem?_append_left hi] at hb; exact hq i b hb
    · rw [List.getElem?_append_right (by omega)] at hb
      by_cases h0 : i - l.length = 0
      · rw [h0] at hb
        simp at hb
        subst hb
        have : i = n := by omega
        subst this; exact ha
      · rw [List.getElem?_eq_none (by simp; omega)] at hb; cases hb

theorem flat_get {α β : Type} (f : α → List β) (k : Nat) (hk : 0 < k) (hf : ∀ a, (f a).length = k) : ∀ (l : List α) (j : Nat), (l.flatMap f)[j]? = (l[j / k]?).bind (fun a => (f a)[j % k]?)
  | [], j => by simp
  | a :: l, j => by
    rw [List.flatMap_cons]
    by_cases hj : j < k
    · rw [List.getElem?_append_left (by rw [hf]; exact hj), Nat.div_eq_of_lt hj, Nat.mod_eq_of_lt hj]; rfl
    · rw [List.getElem?_append_right (by rw [hf]; omega), hf, flat_get f k hk hf l (j - k)]
      obtain ⟨m, rfl⟩ : ∃ m, j = m + k := ⟨j - k, by omega⟩
      rw [Nat.add_sub_cancel, Nat.add_div_right _ hk, Nat.add_mod_right]; rfl
theorem flat_len {α β : Type} (f : α → List β) (k : Nat) (hf : ∀ a, (f a).length = k) : ∀ l : List α, (l.flatMap f).length = l.length * k
  | [] => by simp
  | a :: l => by rw [List.flatMap_cons, List.length_append, hf, flat_len f k hf l, List.length_cons, Nat.succ_mul, Nat.add_comm]
theorem flat_at {α β : Type} (f : α → List β) (k : Nat) (hf : ∀ a, (f a).length = k) (l : List α) (i r : Nat) (hr : r < k) : (l.flatMap f)[i * k + r]? = (l[i]?).bind (fun a => (f a)[r]?) := by
  rw [flat_get f k (by omega) hf]
  have h1 : (i * k + r) / k = i := by rw [Nat.mul_comm, Nat.mul_add_div (by omega), Nat.div_eq_of_lt hr]; omega
  have h2 : (i * k + r) % k = r := by rw [Nat.mul_comm, Nat.mul_add_mod, Nat.mod_eq_of_lt hr]
  rw [h1, h2]

/-! ### pipes, valves -/

structure Pp where
  id : Int
  fr : Int
  to : Int
  sz : Int
deriving DecidableEq
def Pp.vals (p : Pp) : List Value := [.int .i64 p.id, .int .i64 p.fr, .int .i64 p.to, .int .i64 p.sz]
def Pp.val (p : Pp) : Value := .agg #[.int .i64 p.id, .int .i64 p.fr, .int .i64 p.to, .int .i64 p.sz]
structure Vv where
  id : Int
  pipe : Int
  node : Int
  shut : Bool
deriving DecidableEq
def Vv.vals (v : Vv) : List Value := [.int .i64 v.id, .int .i64 v.pipe, .int .i64 v.node, .bool v.shut]
def Vv.val (v : Vv) : Value := .agg #[.int .i64 v.id, .int .i64 v.pipe, .int .i64 v.node, .bool v.shut]
def wf64 (n : Int) : Prop := (Lit.int .i64 n).wf = true
def Pp.wf (p : Pp) : Prop := wf64 p.id ∧ wf64 p.fr ∧ wf64 p.to ∧ wf64 p.sz
def Vv.wf (v : Vv) : Prop := wf64 v.id ∧ wf64 v.pipe ∧ wf64 v.node
def pipesV (ps : List Pp) : List Value := ps.flatMap Pp.vals
def valvesV (vs : List Vv) : List Value := vs.flatMap Vv.vals
def intsV (zs : List Int) : List Value := zs.map (Value.int .i64)
def strsV (ss : List ByteArray) : List Value := ss.map Value.string
theorem wf64_bd {n : Int} (h : wf64 n) : -9223372036854775808 ≤ n ∧ n ≤ 9223372036854775807 := bounds_i64 h

/-! ### a slice that is read -/

/-- The slice value with address A and n elements of 'size' cells each holds the cells xs. -/
def Rd (w : World) (size : Nat) (A : Option Addr) (n : Nat) (xs : List Value) : Prop :=
  xs.length = n * size ∧ (0 < n → ∃ b off, A = some ⟨b, off, none⟩ ∧ b < w.heap.size ∧ ∀ j u, xs[j]? = some u → w.cell? ⟨b, off + j, none⟩ = some u)

section
variable {w w' : World} {size n : Nat} {A : Option Addr} {xs : List Value}
theorem Rd.nil : Rd w size A 0 [] := ⟨by simp, fun h => absurd h (by omega)⟩
theorem Rd.below (h : Rd w size A n xs) {B : Nat} (hb : Below B w w') (hB : w.heap.size ≤ B) : Rd w' size A n xs :=
  ⟨h.1, fun hn => by
    obtain ⟨b, off, e, hb1, hc⟩ := h.2 hn
    exact ⟨b, off, e, Nat.lt_of_lt_of_le hb1 hb.size, fun j u hu => (hb.cell (p := ⟨b, off + j, none⟩) (by show b < B; omega)).trans (hc j u hu)⟩⟩
theorem Rd.kept (h : Rd w size A n xs) (hb : Below w.heap.size w w') : Rd w' size A n xs := h.below hb (Nat.le_refl _)
theorem Rd.drewN (h : Rd w size A n xs) (k : Nat) : Rd (w.drewN k) size A n xs := h
/-- The element at k, of a slice of one-cell elements. -/
theorem Rd.at1 (h : Rd w 1 A n xs) {k : Nat} (hk : k < n) : ∃ b off u, A = some ⟨b, off, none⟩ ∧ b < w.heap.size ∧ xs[k]? = some u ∧ w.cell? ⟨b, off + k, none⟩ = some u := by
  obtain ⟨b, off, e, hb, hc⟩ := h.2 (by omega)
  have hl : k < xs.length := by have := h.1; omega
  exact ⟨b, off, xs[k], e, hb, List.getElem?_eq_getElem hl, hc k _ (List.getElem?_eq_getElem hl)⟩
end

end Go.Proofs.YtdlcldaogcbnlaaDoor
