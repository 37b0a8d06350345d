/- Elements of slices that are read, by their index. -/
import Derived.Test.YtdlcldaogcbnlaaDoorPipes
import Derived.Test.YtdlcldaogcbnlaaDoorSch
import Derived.Test.YtdlcldaogcbnlaaDoorElI
namespace Go.Proofs.YtdlcldaogcbnlaaDoor
open Go.RowKit
set_option linter.unusedVariables false

theorem Rd.elPipe {w : World} {A : Option Addr} {n : Nat} {ps : List Pp} (h : Rd w 4 A n (pipesV ps)) {k : Nat} {x : Pp} (hx : ps[k]? = some x) :
    ∃ b off, A = some ⟨b, off, none⟩ ∧ b < w.heap.size ∧ w.cell? ⟨b, off + k * 4, none⟩ = some (.int .i64 x.id) ∧ w.cell? ⟨b, off + k * 4 + 1, none⟩ = some (.int .i64 x.fr) ∧ w.cell? ⟨b, off + k * 4 + 2, none⟩ = some (.int .i64 x.to) ∧ w.cell? ⟨b, off + k * 4 + 3, none⟩ = some (.int .i64 x.sz) := by
  have hk : k < n := by have h1 := (List.getElem?_eq_some_iff.1 hx).1; have h2 := h.1; rw [pipesV_len] at h2; omega
  obtain ⟨b, off, y, e, hb, hy, r⟩ := h.atPipe hk
  obtain rfl := Option.some.inj (hy.symm.trans hx)
  exact ⟨b, off, e, hb, r⟩
theorem rd_pipes_len {w : World} {A : Option Addr} {n : Nat} {ps : List Pp} (h : Rd w 4 A n (pipesV ps)) : ps.length = n := by have := h.1; rw [pipesV_len] at this; omega

end Go.Proofs.YtdlcldaogcbnlaaDoor
