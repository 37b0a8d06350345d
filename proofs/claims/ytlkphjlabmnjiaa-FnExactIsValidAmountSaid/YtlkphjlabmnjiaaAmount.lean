/- Amounts: a copy of an amount, its validity by the program and by the reference; the law on it. -/
import Derived.Test.YtlkphjlabmnjiaaProg
import Derived.Test.YtlkphjlabmnjiaaNum
namespace Go.Proofs.Ytlkphjlabmnjiaa
open Go.RowKit
set_option linter.unusedVariables false

/-- An amount as a value. -/
def amt (v u : Int) : Value := .agg #[.int .i64 v, .int .i64 u]
def goodAmt (v u : Int) : Bool := inB v 0 1000000 && inB u 1 4

theorem toAmount_any (v u : Int) (w : World) :
    Calls Try.prog 6 #[.agg #[.int .i64 v, .int .i64 u]] w fun e w' => e = .returned (.agg #[.int .i64 v, .int .i64 u]) ∧ Below w.heap.size w w' := by
  go_enter Try.func6, Try.ntmps6
  go_wp2
  exact bodyPost_ret (v := .agg #[.int .i64 v, .int .i64 u]) (by simp [results, Try.results6, go_sem]) rfl ⟨rfl, below_a3 _ _ _ _⟩

theorem isUnit_any (u : Int) (w : World) :
    Calls Try.prog 12 #[.int .i64 u] w fun e w' => e = .returned (.bool (inB u 1 4)) ∧ w = w' := by
  go_enter Try.func12, Try.ntmps12
  go_wp2_with (go_at_call 11; refine (inside_any _ _ _ _).mono ?_; rintro e w' ⟨rfl, rfl⟩)
  go_ret
  exact ⟨rfl, rfl⟩
theorem l3Unit_any (u : Int) (w : World) :
    Calls Try.prog 16 #[.int .i64 u] w fun e w' => e = .returned (.bool (inB u 1 4)) ∧ w = w' := by
  go_enter Try.func16, Try.ntmps16
  go_wp2_with (go_at_call 13; refine (l1In_any _ _ _ _).mono ?_; rintro e w' ⟨rfl, rfl⟩)
  go_ret
  exact ⟨rfl, rfl⟩

theorem IsValidAmount_impl (v u : Int) (w : World) :
    Calls Try.prog 7 #[.agg #[.int .i64 v, .int .i64 u]] w fun e w' => e = .returned (.bool (goodAmt v u)) ∧ Below w.heap.size w w' := by
  cases h : inB v 0 1000000
  · have H := Lib.hid h
    clear h
    go_enter Try.func7, Try.ntmps7
    go_wp2_with fail
    refine (inside_any _ _ _ _).mono ?_
    rintro e w' ⟨rfl, rfl⟩
    rw [H.out]
    go_wp2_with fail
    go_ret
    exact ⟨ret_bool (by rw [goodAmt, H.out]; rfl), below_a1 _ _⟩
  · have H := Lib.hid h
    clear h
    go_enter Try.func7, Try.ntmps7
    go_wp2_with fail
    refine (inside_any _ _ _ _).mono ?_
    rintro e w' ⟨rfl, rfl⟩
    rw [H.out]
    go_wp2_with fail
    refine (isUnit_any _ _).mono ?_
    rintro e w' ⟨rfl, rfl⟩
    go_wp2_with fail
    go_ret
    exact ⟨ret_bool (by rw [goodAmt, H.out]; rfl), below_a1 _ _⟩
theorem l3Good_any (v u : Int) (w : World) :
    Calls Try.prog 10 #[.agg #[.int .i64 v, .int .i64 u]] w fun e w' => e = .returned (.bool (goodAmt v u)) ∧ Below w.heap.size w w' := by
  cases h : inB v 0 1000000
  · have H := Lib.hid h
    clear h
    go_enter Try.func10, Try.ntmps10
    go_wp2_with fail
    refine (l1In_any _ _ _ _).mono ?_
    rintro e w' ⟨rfl, rfl⟩
    rw [H.out]
    go_wp2_with fail
    go_ret
    exact ⟨ret_bool (by rw [goodAmt, H.out]; rfl), below_a1 _ _⟩
  · have H := Lib.hid h
    clear h
    go_enter Try.func10, Try.ntmps10
    go_wp2_with fail
    refine (l1In_any _ _ _ _).mono ?_
    rintro e w' ⟨rfl, rfl⟩
    rw [H.out]
    go_wp2_with fail
    refine (l3Unit_any _ _).mono ?_
    rintro e w' ⟨rfl, rfl⟩
    go_wp2_with fail
    go_ret
    exact ⟨ret_bool (by rw [goodAmt, H.out]; rfl), below_a1 _ _⟩
theorem IsValidAmount_spec (v u : Int) (w : World) :
    Calls Try.prog 5 #[.agg #[.int .i64 v, .int .i64 u]] w fun e w' => e = .returned (.bool (goodAmt v u)) ∧ Below w.heap.size w w' := by
  go_enter Try.func5, Try.ntmps5
  go_wp2_with fail
  refine (l3Good_any _ _ _).mono ?_
  rintro e w' ⟨rfl, hb⟩
  go_wp2_with fail
  go_ret
  exact ⟨rfl, below_step (below_a1 _ _) hb (Nat.le_refl _)⟩

end Go.Proofs.Ytlkphjlabmnjiaa
