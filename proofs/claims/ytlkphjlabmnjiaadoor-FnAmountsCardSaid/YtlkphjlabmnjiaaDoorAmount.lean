/- Amounts: a copy of an amount, its validity by the program and by the reference; the law on it. -/
import Derived.Test.YtlkphjlabmnjiaaDoorProg
import Derived.Test.YtlkphjlabmnjiaaDoorNum
namespace Go.Proofs.YtlkphjlabmnjiaaDoor
open Go.RowKit
set_option linter.unusedVariables false

/-- An amount as a value. -/
def amt (v u : Int) : Value := .agg #[.int .i64 v, .int .i64 u]
def goodAmt (v u : Int) : Bool := inB v 0 1000000 && inB u 1 4

theorem toAmount_any (v u : Int) (w : World) :
    Calls Tryd.prog 13 #[.agg #[.int .i64 v, .int .i64 u]] w fun e w' => e = .returned (.agg #[.int .i64 v, .int .i64 u]) ∧ Below w.heap.size w w' := by
  go_enter Tryd.func13, Tryd.ntmps13
  go_wp2
  exact bodyPost_ret (v := .agg #[.int .i64 v, .int .i64 u]) (by simp [results, Tryd.results13, go_sem]) rfl ⟨rfl, below_a3 _ _ _ _⟩

theorem isUnit_any (u : Int) (w : World) :
    Calls Tryd.prog 44 #[.int .i64 u] w fun e w' => e = .returned (.bool (inB u 1 4)) ∧ w = w' := by
  go_enter Tryd.func44, Tryd.ntmps44
  go_wp2_with (go_at_call 48; refine (inside_any _ _ _ _).mono ?_; rintro e w' ⟨rfl, rfl⟩)
  go_ret
  exact ⟨rfl, rfl⟩
theorem l3Unit_any (u : Int) (w : World) :
    Calls Tryd.prog 41 #[.int .i64 u] w fun e w' => e = .returned (.bool (inB u 1 4)) ∧ w = w' := by
  go_enter Tryd.func41, Tryd.ntmps41
  go_wp2_with (go_at_call 46; refine (l1In_any _ _ _ _).mono ?_; rintro e w' ⟨rfl, rfl⟩)
  go_ret
  exact ⟨rfl, rfl⟩

theorem IsValidAmount_impl (v u : Int) (w : World) :
    Calls Tryd.prog 35 #[.agg #[.int .i64 v, .int .i64 u]] w fun e w' => e = .returned (.bool (goodAmt v u)) ∧ Below w.heap.size w w' := by
  cases h : inB v 0 1000000
  · have H := Lib.hid h
    clear h
    go_enter Tryd.func35, Tryd.ntmps35
    go_wp2_with fail
    refine (inside_any _ _ _ _).mono ?_
    rintro e w' ⟨rfl, rfl⟩
    rw [H.out]
    go_wp2_with fail
    go_ret
    exact ⟨ret_bool (by rw [goodAmt, H.out]; rfl), below_a1 _ _⟩
  · have H := Lib.hid h
    clear h
    go_enter Tryd.func35, Tryd.ntmps35
    go_wp2_with fail
    refine (inside_any _ _ _ _).mono ?_
    rintro e w' ⟨rfl, rfl⟩
    rw [H.out]
    go_wp2_with fail
    refine (isUnit_any _ _).mono ?_
    rintro e w' ⟨rfl, rfl⟩
    go_wp2_with fail
    go_ret
    exact ⟨ret_bool (by rw [goodAmt, H.out]; rfl), below_a1 _ _⟩
theorem l3Good_any (v u : Int) (w : World) :
    Calls Tryd.prog 40 #[.agg #[.int .i64 v, .int .i64 u]] w fun e w' => e = .returned (.bool (goodAmt v u)) ∧ Below w.heap.size w w' := by
  cases h : inB v 0 1000000
  · have H := Lib.hid h
    clear h
    go_enter Tryd.func40, Tryd.ntmps40
    go_wp2_with fail
    refine (l1In_any _ _ _ _).mono ?_
    rintro e w' ⟨rfl, rfl⟩
    rw [H.out]
    go_wp2_with fail
    go_ret
    exact ⟨ret_bool (by rw [goodAmt, H.out]; rfl), below_a1 _ _⟩
  · have H := Lib.hid h
    clear h
    go_enter Tryd.func40, Tryd.ntmps40
    go_wp2_with fail
    refine (l1In_any _ _ _ _).mono ?_
    rintro e w' ⟨rfl, rfl⟩
    rw [H.out]
    go_wp2_with fail
    refine (l3Unit_any _ _).mono ?_
    rintro e w' ⟨rfl, rfl⟩
    go_wp2_with fail
    go_ret
    exact ⟨ret_bool (by rw [goodAmt, H.out]; rfl), below_a1 _ _⟩

end Go.Proofs.YtlkphjlabmnjiaaDoor
