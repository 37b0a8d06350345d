/- The walk of the law FnExactConvertAmount; what the table of flows holds. -/
import Derived.Test.YtlkphjlabmnjiaaDoorUnit
import Derived.Test.YtlkphjlabmnjiaaDoorLaid
import Derived.Test.YtlkphjlabmnjiaaDoorRows
namespace Go.Proofs.YtlkphjlabmnjiaaDoor
open Go.RowKit
set_option linter.unusedVariables false

theorem flows_of {W : World} {l : List (String × DataW Unit)} (hp : (l.all fun x => x.2.handleName?.isNone) = true) (hL : laidMetH Tryd.prog l W) (hm : ("loop.example/g00853/impl.unitFlows", Rows.laid_loop_example_g00853_impl_unitFlows) ∈ l) : Flows W := by
  obtain ⟨cs, fuel, p, _, ht, hc⟩ := laid_of (g := 1) (t := 91) hp hL hm (by kernel_rfl) (by kernel_rfl)
  have ht' := tab_pairs [(0, 1), (1, 1), (60, 1), (50, 3), (25, 36)] Tryd.underlying91 Tryd.underlying63 (by kernel_rfl) (by kernel_rfl) rfl rfl Tryd.underlying3 rfl ht
  intro u h1 h2
  have hh : u = 1 ∨ u = 2 ∨ u = 3 ∨ u = 4 := by omega
  simp only [hc]
  rcases hh with rfl | rfl | rfl | rfl
  · have := ht' 1 1 1 rfl; simpa [fnum, fden] using this
  · have := ht' 2 60 1 rfl; simpa [fnum, fden] using this
  · have := ht' 3 50 3 rfl; simpa [fnum, fden] using this
  · have := ht' 4 25 36 rfl; simpa [fnum, fden] using this

theorem w_FnExactConvertAmount (v u : Int) (_h : wf64 v ∧ wf64 u) (k : Int) (_hk : wf64 k) (w : World) (hf : Flows w) :
    Calls Tryd.prog 3 #[.agg #[.int .i64 v, .int .i64 u], .int .i64 k] w fun e w' => e = .returned (.bool true) ∧ Below w.heap.size w w' := by
  obtain ⟨x, y, b, hx⟩ : ∃ (x y : Int) (b : Bool), convOf v u k = .tuple #[.int .i64 x, .int .i64 y, .bool b] := by
    unfold convOf; split <;> exact ⟨_, _, _, rfl⟩
  have cs := ConvertAmount_spec v u k
  have ci := ConvertAmount_impl v u k
  rw [hx] at cs ci
  have Cs := Lib.hid cs
  have Ci := Lib.hid ci
  clear hx cs ci
  go_enter Tryd.func3, Tryd.ntmps3
  go_wp2_with fail
  refine (toAmount_any _ _ _).mono ?_
  rintro e w1 ⟨rfl, b1⟩
  have c1 := b1
  go_wp2_with fail
  refine (Cs.out _).mono ?_
  rintro e w2 ⟨rfl, b2⟩
  have c2 := also c1 b2
  have hc := keeps c2
  go_wp2_with fail
  refine (toAmount_any _ _ _).mono ?_
  rintro e w3 ⟨rfl, b3⟩
  have c3 := also c2 b3
  go_wp2_with fail
  refine (Ci.out _ (hf.later (below_step (below_a1 _ _) c3 (by simp)))).mono ?_
  rintro e w4 ⟨rfl, b4⟩
  have c4 := also c3 b4
  clear hc
  go_wp2_with fail
  all_goals go_ret
  all_goals exact ⟨rfl, below_step (below_a1 _ _) c4 (by simp)⟩

end Go.Proofs.YtlkphjlabmnjiaaDoor
