/- The pressure of a water column in bars, by the program and by the reference; the law on it. -/
import Derived.Test.YtlkphjlabmnjiaaProg
import Derived.Test.YtlkphjlabmnjiaaNum
namespace Go.Proofs.Ytlkphjlabmnjiaa
open Go.RowKit
set_option linter.unusedVariables false

def barsOf (m : Int) : Value :=
  if inB m 0 1000 then .tuple #[.int .i64 ((5 * m.toNat / Nat.gcd (5 * m.toNat) 51 : Nat) : Int), .int .i64 ((51 / Nat.gcd (5 * m.toNat) 51 : Nat) : Int), .bool true] else .tuple #[.int .i64 0, .int .i64 0, .bool false]

theorem BarsOf_impl (m : Int) (w : World) :
    Calls Try.prog 9 #[.int .i64 m] w fun e w' => e = .returned (barsOf m) ∧ ∃ n, w' = w.drewN n := by
  cases h : inB m 0 1000
  · have h' := Lib.hid h
    clear h
    go_enter Try.func9, Try.ntmps9
    go_wp2_with fail
    refine (inside_any _ _ _ _).mono ?_
    rintro e w' ⟨rfl, rfl⟩
    rw [h'.out]
    go_wp2_with fail
    go_ret3
    exact ⟨by rw [barsOf, h'.out]; rfl, 0, rfl⟩
  · obtain ⟨h0, h1⟩ := inB_yes.1 h
    have h' := Lib.hid h
    clear h
    obtain ⟨k, rfl⟩ := Int.eq_ofNat_of_zero_le h0
    have e5 : ((5 * k : Nat) : Int) = 5 * (k : Int) := by omega
    have hc := lowestTerms_any (5 * k) 51 w (by omega) (by omega) (by omega)
    rw [e5] at hc
    clear e5
    go_enter Try.func9, Try.ntmps9
    go_wp2_with fail
    refine (inside_any _ _ _ _).mono ?_
    rintro e w' ⟨rfl, rfl⟩
    rw [h'.out]
    go_wp2_with fail
    refine hc.mono ?_
    rintro e w' ⟨rfl, n, rfl⟩
    go_wp2_with fail
    go_ret3
    exact ⟨by rw [barsOf, h'.out]; rfl, n, rfl⟩

theorem BarsOf_spec (m : Int) (w : World) :
    Calls Try.prog 8 #[.int .i64 m] w fun e w' => e = .returned (barsOf m) ∧ ∃ n, w' = w.drewN n := by
  cases h : inB m 0 1000
  · have h' := Lib.hid h
    clear h
    go_enter Try.func8, Try.ntmps8
    go_wp2_with fail
    refine (l1In_any _ _ _ _).mono ?_
    rintro e w' ⟨rfl, rfl⟩
    rw [h'.out]
    go_wp2_with fail
    go_ret3
    exact ⟨by rw [barsOf, h'.out]; rfl, 0, rfl⟩
  · obtain ⟨h0, h1⟩ := inB_yes.1 h
    have h' := Lib.hid h
    clear h
    obtain ⟨k, rfl⟩ := Int.eq_ofNat_of_zero_le h0
    have e5 : ((5 * k : Nat) : Int) = 5 * (k : Int) := by omega
    have hc := l3Reduce_any (5 * k) 51 w (by omega) (by omega) (by omega)
    rw [e5] at hc
    clear e5
    go_enter Try.func8, Try.ntmps8
    go_wp2_with fail
    refine (l1In_any _ _ _ _).mono ?_
    rintro e w' ⟨rfl, rfl⟩
    rw [h'.out]
    go_wp2_with fail
    refine hc.mono ?_
    rintro e w' ⟨rfl, n, rfl⟩
    go_wp2_with fail
    go_ret3
    exact ⟨by rw [barsOf, h'.out]; rfl, n, rfl⟩

theorem w_FnExactBarsOf (m : Int) (_hm : (Lit.int .i64 m).wf = true) (w : World) :
    Calls Try.prog 4 #[.int .i64 m] w fun e w' => e = .returned (.bool true) ∧ Below w.heap.size w w' := by
  obtain ⟨x, y, b, hx⟩ : ∃ (x y : Int) (b : Bool), barsOf m = .tuple #[.int .i64 x, .int .i64 y, .bool b] := by
    unfold barsOf; split <;> exact ⟨_, _, _, rfl⟩
  have cs := BarsOf_spec m
  have ci := BarsOf_impl m
  rw [hx] at cs ci
  clear hx
  go_enter Try.func4, Try.ntmps4
  go_wp2_with fail
  refine (cs _).mono ?_
  rintro e w' ⟨rfl, n, rfl⟩
  go_wp2_with fail
  refine (ci _).mono ?_
  rintro e w' ⟨rfl, n', rfl⟩
  go_wp2_with fail
  all_goals go_ret
  all_goals exact ⟨rfl, below_drewN (Below.refl _ _) _⟩

end Go.Proofs.Ytlkphjlabmnjiaa
