/- Rows of cells that a call owns, and what may be read of them. No program is named here. -/
import Derived.Test.YtdlcldaogcbnlaaDoorMem
import Derived.Deep.QuietTactic
import Derived.BigQuiet
import Derived.Outline
import Derived.OneCell
import Derived.Deep.AppendLies
namespace Go.Proofs.YtdlcldaogcbnlaaDoor
open Go.RowKit
set_option linter.unusedVariables false

/-- What is owned may be read. -/
theorem own_rd {w : World} {base : Nat} {e : TypeId} {size : Nat} {A : Option Addr} {n c : Nat} {xs : List Value} (h : w.ownsRow base e size (.slice A n c) n xs) : Rd w size A n xs := by
  obtain ⟨hl, h2⟩ := h
  refine ⟨hl, fun hn => ?_⟩
  rcases h2 with ⟨_, h0⟩ | ⟨g, cap, cur, hv, hb, hh, hnc, hm, hs, ht⟩
  · omega
  · simp only [Value.slice.injEq] at hv
    obtain ⟨rfl, _, rfl⟩ := hv
    refine ⟨g, 0, rfl, ?_, fun j u hu => ?_⟩
    · rcases Nat.lt_or_ge g w.heap.size with hlt | hge
      · exact hlt
      · rw [Array.getElem?_eq_none hge] at hh; cases hh
    · rw [← ht, List.getElem?_take] at hu
      split at hu
      · simp only [World.cell?, hh]; simpa using hu
      · cases hu
theorem own_len {w : World} {base : Nat} {e : TypeId} {A : Option Addr} {n c : Nat} {xs : List Value} (h : w.ownsRow base e 1 (.slice A n c) n xs) : xs.length = n := by have := h.1; omega
/-- An owned slice's value, written out. -/
theorem own_form {w : World} {base : Nat} {e : TypeId} {size n : Nat} {v : Value} {xs : List Value} (h : w.ownsRow base e size v n xs) : ∃ A c, v = .slice A n c := by
  rcases h.2 with ⟨rfl, rfl⟩ | ⟨g, cap, cur, rfl, _⟩
  · exact ⟨_, _, rfl⟩
  · exact ⟨_, _, rfl⟩
theorem own_max {w : World} {base : Nat} {e : TypeId} {size n : Nat} {v : Value} {xs : List Value} (h : w.ownsRow base e size v n xs) : n ≤ 9223372036854775807 := by
  rcases h.2 with ⟨rfl, rfl⟩ | ⟨g, cap, cur, rfl, _, _, h1, h2, _⟩
  · omega
  · unfold maxLen at h2; omega
/-- What is owned stays owned in a later world that keeps its block. -/
theorem own_kept {w w' : World} {base : Nat} {e : TypeId} {size n : Nat} {v : Value} {xs : List Value} (h : w.ownsRow base e size v n xs) (hb : Below w.heap.size w w') : w'.ownsRow base e size v n xs := by
  obtain ⟨hl, h2⟩ := h
  refine ⟨hl, ?_⟩
  rcases h2 with h0 | ⟨g, cap, cur, hv, hg, hh, r⟩
  · exact .inl h0
  · have hlt : g < w.heap.size := by
      rcases Nat.lt_or_ge g w.heap.size with hlt | hge
      · exact hlt
      · rw [Array.getElem?_eq_none hge] at hh; cases hh
    exact .inr ⟨g, cap, cur, hv, hg, (hb.block g hlt).trans hh, r⟩
theorem own_base {w : World} {base base' : Nat} {e : TypeId} {size n : Nat} {v : Value} {xs : List Value} (h : w.ownsRow base e size v n xs) (hb : base' ≤ base) : w.ownsRow base' e size v n xs := by
  obtain ⟨hl, h2⟩ := h
  refine ⟨hl, ?_⟩
  rcases h2 with h0 | ⟨g, cap, cur, hv, hg, r⟩
  · exact .inl h0
  · exact .inr ⟨g, cap, cur, hv, by omega, r⟩
/-- A row outside of what turned is kept. -/
theorem rd_grown {w w' : World} {size n : Nat} {A : Option Addr} {xs : List Value} {row : Option Nat} (h : Rd w size A n xs) (hg : w.grownBy w' row) (hne : ∀ b off, A = some ⟨b, off, none⟩ → some b ≠ row) : Rd w' size A n xs :=
  ⟨h.1, fun hn => by
    obtain ⟨b, off, e, hb, hc⟩ := h.2 hn
    exact ⟨b, off, e, Nat.lt_of_lt_of_le hb hg.size, fun j u hu => hg.cell (hc j u hu) (hne b off e)⟩⟩
theorem grown_trans {a b c : World} {row : Option Nat} (h : a.grownBy b row) (k : b.grownBy c row) : a.grownBy c row :=
  ⟨k.os.trans h.os, k.tape.trans h.tape, k.output.trans h.output, Nat.le_trans h.size k.size, fun i hi hn => (k.block i (Nat.lt_of_lt_of_le hi h.size) hn).trans (h.block i hi hn)⟩
theorem ints_at {zs : List Int} {k : Nat} {u : Value} (h : (intsV zs)[k]? = some u) : ∃ z, zs[k]? = some z ∧ u = .int .i64 z := by
  unfold intsV at h
  rw [List.getElem?_map] at h
  obtain ⟨z, hz, rfl⟩ := Option.map_eq_some_iff.1 h
  exact ⟨z, hz, rfl⟩
theorem ints_len (zs : List Int) : (intsV zs).length = zs.length := by simp [intsV]
theorem ints_snoc (zs : List Int) (k : Nat) (z : Int) (h : zs[k]? = some z) : intsV (zs.take (k + 1)) = intsV (zs.take k) ++ [.int .i64 z] := by
  rw [List.take_add_one, h]; simp [intsV]

/-- What is left of a size's budget. -/
def szL (left : Int) (n : Nat) : Int := if (n : Int) ≤ left then left - n else -1
theorem szL_pos {left : Int} {n : Nat} (h : (n : Int) ≤ left) : szL left n = left - n := if_pos h
theorem szL_neg {left : Int} {n : Nat} (h : ¬ (n : Int) ≤ left) : szL left n = -1 := if_neg h
/-- Numbers in a row, from k on. -/
def upFrom (k : Int) (n : Nat) : List Int := (List.range n).map (fun (i : Nat) => (k + (i : Int) : Int))
theorem upFrom_len (k : Int) (n : Nat) : (upFrom k n).length = n := by simp [upFrom]
theorem upFrom_at (k : Int) (n i : Nat) (h : i < n) : (upFrom k n)[i]? = some (k + (i : Int)) := by
  simp [upFrom, h]

/-- What is owned stays owned where another block has turned. -/
theorem own_grown {w w' : World} {base : Nat} {e : TypeId} {size n : Nat} {v : Value} {xs : List Value} {row : Option Nat} (h : w.ownsRow base e size v n xs) (hg : w.grownBy w' row) (hne : ∀ j, v.ownBlock = some j → row = some j → False) : w'.ownsRow base e size v n xs :=
  World.ownsRow.kept h hg (by
    rcases hv : v.ownBlock with _ | j
    · exact .inl rfl
    · exact .inr (fun e => hne j hv e.symm))
/-- A store into a block that lies below all that is owned. -/
theorem own_set {w : World} {base : Nat} {e : TypeId} {size n : Nat} {v : Value} {xs : List Value} (h : w.ownsRow base e size v n xs) {a : Addr} (ha : a.block < base) (u : Value) : (w.setCell a u).ownsRow base e size v n xs :=
  ownsRow_setCell_other h (fun e => by have := (World.ownsRow.lt h _ e).1; omega) u
/-- What may be read stays so in a later world: the way on first. -/
theorem rd_later {w w' : World} {size n : Nat} {A : Option Addr} {xs : List Value} (hb : Below w.heap.size w w') (h : Rd w size A n xs) : Rd w' size A n xs := h.kept hb

end Go.Proofs.YtdlcldaogcbnlaaDoor
