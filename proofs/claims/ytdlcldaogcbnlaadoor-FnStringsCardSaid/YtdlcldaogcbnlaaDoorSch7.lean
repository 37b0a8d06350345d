/- Lists that are read, and the rows that turn beside them. No program is named here. -/
import Derived.Test.YtdlcldaogcbnlaaDoorWa
namespace Go.Proofs.YtdlcldaogcbnlaaDoor
open Go.RowKit
set_option linter.unusedVariables false

/-- A list that is read lies in no block g. -/
def Sp (A : Option Addr) (n : Nat) (g : Option Nat) : Prop := 0 < n → ∀ b off, A = some ⟨b, off, none⟩ → some b ≠ g
theorem sp_new {W : World} {size n b : Nat} {A : Option Addr} {xs : List Value} (h : Rd W size A n xs) (hb : W.heap.size ≤ b) : Sp A n (some b) := fun hn b' off e e2 => by
  obtain ⟨b1, o1, e1, hlt, _⟩ := h.2 hn
  rw [e] at e1; cases e1; cases e2; omega
theorem sp_own {A : Option Addr} {n b n' c : Nat} (h : Sp A n (some b)) : Sp A n (Value.ownBlock (.slice (some ⟨b, 0, none⟩) n' c)) := by
  have e : Value.ownBlock (.slice (some ⟨b, 0, none⟩) n' c) = some b := by simp [Value.ownBlock]
  rw [e]; exact h
theorem sp_app {W : World} {size n H : Nat} {A : Option Addr} {xs : List Value} {v v' : Value} (h : Sp A n v.ownBlock) (hr : Rd W size A n xs) (hs : W.heap.size ≤ H) (hat : v'.ownBlock = v.ownBlock ∨ ∀ k, v'.ownBlock = some k → H ≤ k) : Sp A n v'.ownBlock := fun hn b off e e2 => by
  rcases hat with h1 | h1
  · exact h hn b off e (e2.trans h1)
  · obtain ⟨b1, o1, e1, hlt, _⟩ := hr.2 hn
    rw [e] at e1; cases e1
    have := h1 b e2.symm; omega
theorem rd_sep {w w' : World} {size n : Nat} {A : Option Addr} {xs : List Value} {g : Option Nat} (h : Rd w size A n xs) (hg : SG w g w') (hs : Sp A n g) : Rd w' size A n xs :=
  ⟨h.1, fun hn => by
    obtain ⟨b, off, e, hb, hc⟩ := h.2 hn
    exact ⟨b, off, e, Nat.lt_of_lt_of_le hb hg.size, fun j u hu => hg.cell (hc j u hu) (hs hn b off e)⟩⟩
/-- An index, reckoned another way. -/
theorem evk {a : Act} {i : Operand} {z : Int} {k : Nat} (h : a.eval i = .int .i64 z) (e : z = (k : Int)) : a.eval i = .int .i64 ((k : Nat) : Int) := by rw [h, e]

end Go.Proofs.YtdlcldaogcbnlaaDoor
