/- A network and a mark handed back. -/
import Derived.Test.YtdlcldaogcbnlaaNetC
import Derived.Test.YtdlcldaogcbnlaaSch3
import Derived.Test.YtdlcldaogcbnlaaSch7
import Derived.Test.YtdlcldaogcbnlaaFr
namespace Go.Proofs.Ytdlcldaogcbnlaa
open Go.RowKit
set_option linter.unusedVariables false
set_option linter.unusedSimpArgs false

theorem fin_net {w w' : World} {e : TypeId} {A : Option Addr} {n c : Nat} {zs vs : List Pp} {m vm : Int} {b vb : Bool} (how : w'.ownsRow w.heap.size e 4 (.slice A n c) n (pipesV zs)) (hz : zs = vs) (hm : m = vm) (hb : b = vb) (bel : Below w.heap.size w w') :
    ∃ A' d, Ending.returned (.tuple #[.agg #[.int .i64 m, .slice A n c], .bool b]) = .returned (.tuple #[.agg #[.int .i64 vm, .slice A' vs.length d], .bool vb]) ∧ w'.ownsRow w.heap.size e 4 (.slice A' vs.length d) vs.length (pipesV vs) ∧ Below w.heap.size w w' := by
  subst hz hm hb
  have hl := rd_pipes_len (own_rd how)
  subst hl
  exact ⟨_, _, rfl, how, bel⟩
theorem fin_rdn {w w' : World} {A : Option Addr} {n c : Nat} {zs vs : List Pp} {m vm : Int} {b vb : Bool} (hr : Rd w' 4 A n (pipesV zs)) (hz : zs = vs) (hm : m = vm) (hb : b = vb) (bel : Below w.heap.size w w') :
    ∃ A' d, Ending.returned (.tuple #[.agg #[.int .i64 m, .slice A n c], .bool b]) = .returned (.tuple #[.agg #[.int .i64 vm, .slice A' vs.length d], .bool vb]) ∧ Rd w' 4 A' vs.length (pipesV vs) ∧ Below w.heap.size w w' := by
  subst hz hm hb
  have hl := rd_pipes_len hr
  subst hl
  exact ⟨_, _, rfl, hr, bel⟩
/-- A list of pipes lies in no small block. -/
theorem sp_small {W : World} {n b : Nat} {A : Option Addr} {ps : List Pp} {cs : Array Value} {E : TypeId} {fz : Nat × Nat} (h : Rd W 4 A n (pipesV ps)) (hb : W.heap[b]? = some (.cells cs E fz)) (hs : cs.size < 4) : Sp A n (some b) := fun hn b' off e e2 => by
  obtain ⟨b9, off9, e9, _, hc⟩ := h.2 hn
  rw [e] at e9
  cases e9; cases e2
  cases ps with
  | nil => have := h.1; simp [pipesV] at this; omega
  | cons p ps =>
    have h1 := hc 3 (.int .i64 p.sz) (by simp [pipesV, Pp.vals])
    simp only [World.cell?, hb] at h1
    have h2 := (Array.getElem?_eq_some_iff.1 (by simpa using h1)).1
    omega
theorem rd_none4 (w : World) : Rd w 4 none 0 (pipesV []) := ⟨rfl, fun h => absurd h (by omega)⟩

end Go.Proofs.Ytdlcldaogcbnlaa
