/- Elements of lists of numbers that are read, by their index. No program is named here. -/
import Derived.Test.YtdlcldaogcbnlaaDoorSch
namespace Go.Proofs.YtdlcldaogcbnlaaDoor
open Go.RowKit
set_option linter.unusedVariables false

theorem Rd.elInt {w : World} {A : Option Addr} {n : Nat} {zs : List Int} (h : Rd w 1 A n (intsV zs)) {k : Nat} {x : Int} (hx : zs[k]? = some x) :
    ∃ b off, A = some ⟨b, off, none⟩ ∧ b < w.heap.size ∧ w.cell? ⟨b, off + k, none⟩ = some (.int .i64 x) := by
  have hk : k < n := by have h1 := (List.getElem?_eq_some_iff.1 hx).1; have h2 := h.1; rw [ints_len] at h2; omega
  obtain ⟨b, off, u, e, hb, hu, hc⟩ := h.at1 hk
  obtain ⟨z, hz, rfl⟩ := ints_at hu
  obtain rfl := Option.some.inj (hz.symm.trans hx)
  exact ⟨b, off, e, hb, hc⟩
theorem rd_ints_len {w : World} {A : Option Addr} {n : Nat} {zs : List Int} (h : Rd w 1 A n (intsV zs)) : zs.length = n := by have := h.1; rw [ints_len] at this; omega

end Go.Proofs.YtdlcldaogcbnlaaDoor
