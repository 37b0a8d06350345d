/- Structs compared with == and !=. -/
import Derived.Test.YtlkphjlabmnjiaaDoorProg
import Derived.Test.YtlkphjlabmnjiaaDoorSch
import Derived.Laws.StructEq
namespace Go.Proofs.YtlkphjlabmnjiaaDoor
open Go.RowKit
set_option linter.unusedVariables false

section
variable {S : World → Prop} {o : Oper} {a : Act}
theorem r_eqlAgg {P : Program} {t u : TypeId} {x y : Operand} {xs ys : Array Value} {r : Bool} (ho : o.op = .binOp .eql t x y u) (hx : a.eval x = .agg xs) (hy : a.eval y = .agg ys) (hg : P.eqGuardType P.depth t = false) (hr : ∀ w, (Op.equalIn 10000 t (.agg xs) (.agg ys)).run P w = .ok r w) :
    ∀ w, S w → (execOp a.eval o).run P w = .ok (.value (.bool r)) w := fun w _ => by
  simp [execOp, ho, hx, hy, run_eqGuard_agg w .eql t x y xs ys hg, run_eql_struct, hr w, Result.andThen]
theorem r_neqAgg {P : Program} {t u : TypeId} {x y : Operand} {xs ys : Array Value} {r : Bool} (ho : o.op = .binOp .neq t x y u) (hx : a.eval x = .agg xs) (hy : a.eval y = .agg ys) (hg : P.eqGuardType P.depth t = false) (hr : ∀ w, (Op.equalIn 10000 t (.agg xs) (.agg ys)).run P w = .ok r w) :
    ∀ w, S w → (execOp a.eval o).run P w = .ok (.value (.bool (!r))) w := fun w _ => by
  simp [execOp, ho, hx, hy, run_eqGuard_agg w .neq t x y xs ys hg, run_neq_struct, hr w, Result.andThen]
theorem eqv_Amount (a1 a2 b1 b2 : Int) (w : World) : (Op.equalIn 10000 26 (.agg #[.int .i64 a1, .int .i64 a2]) (.agg #[.int .i64 b1, .int .i64 b2])).run Tryd.prog w = .ok (decide (a1 = b1 ∧ a2 = b2)) w := by
  rw [run_equalIn_agg w 9999 _ _ _ (by simp only [Program.fieldsOf, Tryd.underlying26]) (by kernel_rfl)]
  simp only [Program.fieldsOf, Tryd.underlying26]
  by_cases h1 : a1 = b1 <;> by_cases h2 : a2 = b2 <;> simp [go_sem, h1, h2]
theorem r_eql_Amount {t u : TypeId} {x y : Operand} {a1 a2 b1 b2 : Int} {r : Bool} (ho : o.op = .binOp .eql 26 x y u) (hx : a.eval x = .agg #[.int .i64 a1, .int .i64 a2]) (hy : a.eval y = .agg #[.int .i64 b1, .int .i64 b2]) (hr : decide (a1 = b1 ∧ a2 = b2) = r) :
    ∀ w, S w → (execOp a.eval o).run Tryd.prog w = .ok (.value (.bool r)) w := r_eqlAgg ho hx hy (by kernel_rfl) (fun w => by rw [eqv_Amount, hr])
theorem r_neq_Amount {u : TypeId} {x y : Operand} {a1 a2 b1 b2 : Int} {r : Bool} (ho : o.op = .binOp .neq 26 x y u) (hx : a.eval x = .agg #[.int .i64 a1, .int .i64 a2]) (hy : a.eval y = .agg #[.int .i64 b1, .int .i64 b2]) (hr : decide (a1 = b1 ∧ a2 = b2) = r) :
    ∀ w, S w → (execOp a.eval o).run Tryd.prog w = .ok (.value (.bool (!r))) w := r_neqAgg ho hx hy (by kernel_rfl) (fun w => by rw [eqv_Amount, hr])
end

end Go.Proofs.YtlkphjlabmnjiaaDoor
