/- Results of which the first is read from a variable's block. No program is named here. -/
import Derived.Test.YtdlcldaogcbnlaaSch4
namespace Go.Proofs.Ytdlcldaogcbnlaa
open Go.RowKit
set_option linter.unusedVariables false

section
variable {P : Program} {fn : Func} {R : Ending → World → Prop} {l : List Value} {w : World}
theorem res_ct {t u : Tmp} {ty e : TypeId} {b : Nat} {cs : Array Value} {x : Value} (hf : fn.results = #[.cell t ty, .tmp u]) (hv : l.getD t undef = .pointer (some ⟨b, 0, none⟩)) (ht : aggB P ty = some true) (hs : sizeB P ty = some cs.size) (hu : l.getD u undef = x) (hx : w.heap[b]? = some (.cells cs e (0, 0))) :
    (results fn l.toArray).run P w = .ok (.tuple #[.agg cs, x]) w := by
  have h := run_loadCells_list (P := P) (w := w) ⟨b, 0, none⟩ cs.toList (fun j v hj => by
    rw [Addr.add_lit]
    have := blk_cell (j := 0 + j) (v := v) hx (by rw [Nat.zero_add]; simpa using hj)
    exact this)
  rw [Array.length_toList] at h
  have h0 : (loadVar ty ⟨b, 0, none⟩).run P w = .ok (.agg cs) w := by
    simp [loadVar, run_isAgg ht, run_sizeOf hs, h]
  have hv' : l[t]?.getD undef = .pointer (some ⟨b, 0, none⟩) := by rw [← hv]; simp
  have hu' : l[u]?.getD undef = x := by rw [← hu]; simp
  simp [results, hf, hv', hu', asAddr, h0]
theorem retCT {t u : Tmp} {ty e : TypeId} {b : Nat} {cs : Array Value} {x : Value} (hf : fn.results = #[.cell t ty, .tmp u]) (hv : l.getD t undef = .pointer (some ⟨b, 0, none⟩)) (ht : aggB P ty = some true) (hs : sizeB P ty = some cs.size) (hu : l.getD u undef = x) (hx : w.heap[b]? = some (.cells cs e (0, 0)))
    (h : R (.returned (.tuple #[.agg cs, x])) w) : bodyPost P fn R .ret ⟨l.toArray, []⟩ w := bodyPost_ret (res_ct hf hv ht hs hu hx) rfl h
theorem endCT {t u : Tmp} {ty e : TypeId} {b : Nat} {cs : Array Value} {x : Value} (hf : fn.results = #[.cell t ty, .tmp u]) (hv : l.getD t undef = .pointer (some ⟨b, 0, none⟩)) (ht : aggB P ty = some true) (hs : sizeB P ty = some cs.size) (hu : l.getD u undef = x) (hx : w.heap[b]? = some (.cells cs e (0, 0)))
    (h : R (.returned (.tuple #[.agg cs, x])) w) : bodyPost P fn R .normal ⟨l.toArray, []⟩ w := bodyPost_end (res_ct hf hv ht hs hu hx) rfl h
end

end Go.Proofs.Ytdlcldaogcbnlaa
