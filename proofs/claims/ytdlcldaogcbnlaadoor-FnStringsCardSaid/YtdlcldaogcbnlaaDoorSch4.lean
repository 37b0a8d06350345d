/- Results that are read from a variable's block. No program is named here. -/
import Derived.Test.YtdlcldaogcbnlaaDoorQueue
import Derived.Laws.Tables
namespace Go.Proofs.YtdlcldaogcbnlaaDoor
open Go.RowKit
set_option linter.unusedVariables false

section
variable {P : Program} {fn : Func} {R : Ending → World → Prop} {l : List Value} {w : World}
theorem res_cell {t : Tmp} {ty e : TypeId} {b : Nat} {cs : Array Value} (hf : fn.results = #[.cell t ty]) (hv : l.getD t undef = .pointer (some ⟨b, 0, none⟩)) (ht : aggB P ty = some true) (hs : sizeB P ty = some cs.size) (hx : w.heap[b]? = some (.cells cs e (0, 0))) :
    (results fn l.toArray).run P w = .ok (.agg cs) w := by
  have h := run_loadCells_list (P := P) (w := w) ⟨b, 0, none⟩ cs.toList (fun j v hj => by
    rw [Addr.add_lit]
    have := blk_cell (j := 0 + j) (v := v) hx (by rw [Nat.zero_add]; simpa using hj)
    exact this)
  rw [Array.length_toList] at h
  have h0 : (loadVar ty ⟨b, 0, none⟩).run P w = .ok (.agg cs) w := by
    simp [loadVar, run_isAgg ht, run_sizeOf hs, h]
  have hv' : l[t]?.getD undef = .pointer (some ⟨b, 0, none⟩) := by rw [← hv]; simp
  simp [results, hf, hv', asAddr, h0]
theorem retC {t : Tmp} {ty e : TypeId} {b : Nat} {cs : Array Value} (hf : fn.results = #[.cell t ty]) (hv : l.getD t undef = .pointer (some ⟨b, 0, none⟩)) (ht : aggB P ty = some true) (hs : sizeB P ty = some cs.size) (hx : w.heap[b]? = some (.cells cs e (0, 0))) (h : R (.returned (.agg cs)) w) : bodyPost P fn R .ret ⟨l.toArray, []⟩ w :=
  bodyPost_ret (res_cell hf hv ht hs hx) rfl h
theorem endC {t : Tmp} {ty e : TypeId} {b : Nat} {cs : Array Value} (hf : fn.results = #[.cell t ty]) (hv : l.getD t undef = .pointer (some ⟨b, 0, none⟩)) (ht : aggB P ty = some true) (hs : sizeB P ty = some cs.size) (hx : w.heap[b]? = some (.cells cs e (0, 0))) (h : R (.returned (.agg cs)) w) : bodyPost P fn R .normal ⟨l.toArray, []⟩ w :=
  bodyPost_end (res_cell hf hv ht hs hx) rfl h
end

theorem heap_same {w W : World} {b : Nat} {x : Obj} (e : w.heap = W.heap) (h : W.heap[b]? = some x) : w.heap[b]? = some x := by rw [e]; exact h
theorem hat3 {v : Value} {g H n c : Nat} (hat : v.ownBlock = some g ∨ g = H) : (Value.slice (some ⟨g, 0, none⟩) n c).ownBlock = v.ownBlock ∨ ∀ k, (Value.slice (some ⟨g, 0, none⟩) n c).ownBlock = some k → H ≤ k := by
  rcases hat with h | h
  · exact .inl (by rw [h]; rfl)
  · exact .inr (fun k e => by have e' : g = k := by simpa [Value.ownBlock] using e
                              omega)
theorem hat2 {v v' : Value} {H : Nat} (hat : v'.ownBlock = v.ownBlock ∨ v'.ownBlock = some H) : v'.ownBlock = v.ownBlock ∨ ∀ k, v'.ownBlock = some k → H ≤ k := by
  rcases hat with h | h
  · exact .inl h
  · exact .inr (fun k e => by rw [h] at e; cases e; exact Nat.le_refl _)
section
variable {P : Program} {S : World → Prop} {o : Oper} {a : Act}
theorem r_build {t : TypeId} {parts : Array (Nat × Operand)} {vs : List (Nat × Value)} {cs : Array Value} (ho : o.op = .build t parts) (hv : parts.toList.map (fun p => (p.1, a.eval p.2)) = vs) (h : P.built t vs = some cs) :
    ∀ w, S w → (execOp a.eval o).run P w = .ok (.value (.agg cs)) w := fun w _ => by
  have e : (parts.map fun p => (p.1, a.eval p.2)).toList = vs := by rw [Array.toList_map]; exact hv
  have h' := run_build w t (parts.map fun p => (p.1, a.eval p.2)) cs (by rw [e]; exact h)
  simp [execOp, ho, h']
end

end Go.Proofs.YtdlcldaogcbnlaaDoor
