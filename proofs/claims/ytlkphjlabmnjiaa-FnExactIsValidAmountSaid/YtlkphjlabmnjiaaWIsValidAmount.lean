/- The walk of the law FnExactIsValidAmount. -/
import Derived.Test.YtlkphjlabmnjiaaAmount
import Derived.Test.YtlkphjlabmnjiaaMem
namespace Go.Proofs.Ytlkphjlabmnjiaa
open Go.RowKit
set_option linter.unusedVariables false
theorem w_FnExactIsValidAmount (v u : Int) (_h : wf64 v ∧ wf64 u) (w : World) :
    Calls Try.prog 3 #[.agg #[.int .i64 v, .int .i64 u]] w fun e w' => e = .returned (.bool true) ∧ Below w.heap.size w w' := by
  obtain ⟨g, hg⟩ : ∃ g, g = goodAmt v u := ⟨_, rfl⟩
  have cs := IsValidAmount_spec v u
  have ci := IsValidAmount_impl v u
  rw [← hg] at cs ci
  clear hg
  go_enter Try.func3, Try.ntmps3
  go_wp2_with fail
  refine (toAmount_any _ _ _).mono ?_
  rintro e w1 ⟨rfl, b1⟩
  go_wp2_with fail
  refine (cs _).mono ?_
  rintro e w2 ⟨rfl, b2⟩
  have c2 := also b1 b2
  have hc := keeps c2
  go_wp2_with fail
  refine (toAmount_any _ _ _).mono ?_
  rintro e w3 ⟨rfl, b3⟩
  go_wp2_with fail
  refine (ci _).mono ?_
  rintro e w4 ⟨rfl, b4⟩
  have c4 := also (also c2 b3) b4
  go_wp2_with fail
  all_goals go_ret
  all_goals exact ⟨rfl, below_step (below_a1 _ _) c4 (by simp)⟩

end Go.Proofs.Ytlkphjlabmnjiaa
