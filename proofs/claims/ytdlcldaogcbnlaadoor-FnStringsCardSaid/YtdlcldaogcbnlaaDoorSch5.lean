/- Function values: made, and called. No program is named here. -/
import Derived.Test.YtdlcldaogcbnlaaDoorSch4
namespace Go.Proofs.YtdlcldaogcbnlaaDoor
open Go.RowKit
set_option linter.unusedVariables false

section
variable {P : Program} {ops : Array Oper} {Q : Exit → Act → World → Prop} {S : World → Prop}
theorem run_enterV {o : Oper} {a : Act} {g : FuncId} {lb : Array Value} {x : Operand} {as : Array Operand} {ts : Array TypeId} {vs : List Value} (ho : o.op = .call { callee := .value x, args := as, argTypes := ts }) (hx : a.eval x = .func (.func g) #[] lb) (hv : as.toList.map a.eval = vs) (he : enters P g = true) (w : World) :
    (execOp a.eval o).run P w = .ok (.enter g (vs.toArray ++ lb)) w := by
  unfold enters at he
  split at he
  · rename_i fn hf
    simp only [Bool.and_eq_true, Bool.not_eq_true'] at he
    have h1 : ¬ fn.name = "runtime.NumGoroutine" := by simpa using he.1
    have h2 : ¬ fn.body = none := fun e => by rw [e] at he; simp at he
    have hv' : as.map a.eval = vs.toArray := Array.toList_inj.1 (by rw [Array.toList_map]; exact hv)
    simp [execOp, ho, resolve, hv', hx, Deferred.ofValue, invoke, callFunc, hf, h1, h2]
  · cases he
/-- A call of a function value, met by its contract. -/
theorem scv {i : Nat} {π : Sch} {l : List Value} {w : World} {o : Oper} {d : Tmp} {g : FuncId} {lb : Array Value} {x : Operand} {as : Array Operand} {ts : Array TypeId} {vs : List Value} {R : Ending → World → Prop} (hi : ops[i]? = some o)
    (ho : o.op = .call { callee := .value x, args := as, argTypes := ts }) (hx : (Act.mk l.toArray []).eval x = .func (.func g) #[] lb) (hv : as.toList.map (Act.mk l.toArray []).eval = vs) (he : enters P g = true)
    (hw : Region.wanted o (yielded ops l.toArray) = true) (hd : o.dst = some d) (hc : Calls P g (vs.toArray ++ lb) w R)
    (h : ∀ e w', R e w' → ∃ v, e = .returned v ∧ S w' ∧ wpSch P ops Q S π ⟨(l.set d v).toArray, []⟩ w') : wpSch P ops Q S (.cons (i, true) π) ⟨l.toArray, []⟩ w := by
  show wpOp P ops Q i _ _ w
  unfold wpOp
  simp only [hi, hw, if_true]
  left
  unfold Oper.wp
  rw [run_enterV ho hx hv he, Oper.upon_enter]
  refine hc.mono (fun e w' hR => ?_)
  obtain ⟨v, rfl, h1, h2⟩ := h e w' hR
  refine ⟨h1, ?_⟩
  rw [hd]; simpa [Act.put] using h2
end

section
variable {P : Program} {S : World → Prop} {o : Oper} {a : Act}
theorem r_makeFunc {g : FuncId} {caps : Array Operand} {vs : List Value} (ho : o.op = .makeFunc (.func g) #[] caps) (hv : caps.toList.map a.eval = vs) :
    ∀ w, S w → (execOp a.eval o).run P w = .ok (.value (.func (.func g) #[] vs.toArray)) w := fun w _ => by
  have hv' : caps.map a.eval = vs.toArray := Array.toList_inj.1 (by rw [Array.toList_map]; exact hv)
  simp [execOp, ho, Instr.makeFunc, hv']
end

end Go.Proofs.YtdlcldaogcbnlaaDoor
