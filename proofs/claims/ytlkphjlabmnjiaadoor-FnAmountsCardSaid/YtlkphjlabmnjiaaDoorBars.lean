/- The pressure of a water column in bars, by the program and by the reference; the law on it. -/
import Derived.Test.YtlkphjlabmnjiaaDoorProg
import Derived.Test.YtlkphjlabmnjiaaDoorNum
namespace Go.Proofs.YtlkphjlabmnjiaaDoor
open Go.RowKit
set_option linter.unusedVariables false

def barsOf (m : Int) : Value :=
  if inB m 0 1000 then .tuple #[.int .i64 ((5 * m.toNat / Nat.gcd (5 * m.toNat) 51 : Nat) : Int), .int .i64 ((51 / Nat.gcd (5 * m.toNat) 51 : Nat) : Int), .bool true] else .tuple #[.int .i64 0, .int .i64 0, .bool false]

theorem BarsOf_impl (m : Int) (w : World) :
    Calls Tryd.prog 32 #[.int .i64 m] w fun e w' => e = .returned (barsOf m) ∧ ∃ n, w' = w.drewN n := by
  cases h : inB m 0 1000
  · have h' := Lib.hid h
    clear h
    go_enter Tryd.func32, Tryd.ntmps32
    go_wp2_with fail
    refine (inside_any _ _ _ _).mono ?_
    rintro e w' ⟨rfl, rfl⟩
    rw [h'.out]
    go_wp2_with fail
    go_ret3
    exact ⟨by rw [barsOf, h'.out]; rfl, 0, rfl⟩
  · obtain ⟨h0, h1⟩ := inB_yes.1 h
    have h' := Lib.hid h
    clear h
    obtain ⟨k, rfl⟩ := Int.eq_ofNat_of_zero_le h0
    have e5 : ((5 * k : Nat) : Int) = 5 * (k : Int) := by omega
    have hc := lowestTerms_any (5 * k) 51 w (by omega) (by omega) (by omega)
    rw [e5] at hc
    clear e5
    go_enter Tryd.func32, Tryd.ntmps32
    go_wp2_with fail
    refine (inside_any _ _ _ _).mono ?_
    rintro e w' ⟨rfl, rfl⟩
    rw [h'.out]
    go_wp2_with fail
    refine hc.mono ?_
    rintro e w' ⟨rfl, n, rfl⟩
    go_wp2_with fail
    go_ret3
    exact ⟨by rw [barsOf, h'.out]; rfl, n, rfl⟩

theorem BarsOf_spec (m : Int) (w : World) :
    Calls Tryd.prog 33 #[.int .i64 m] w fun e w' => e = .returned (barsOf m) ∧ ∃ n, w' = w.drewN n := by
  cases h : inB m 0 1000
  · have h' := Lib.hid h
    clear h
    go_enter Tryd.func33, Tryd.ntmps33
    go_wp2_with fail
    refine (l1In_any _ _ _ _).mono ?_
    rintro e w' ⟨rfl, rfl⟩
    rw [h'.out]
    go_wp2_with fail
    go_ret3
    exact ⟨by rw [barsOf, h'.out]; rfl, 0, rfl⟩
  · obtain ⟨h0, h1⟩ := inB_yes.1 h
    have h' := Lib.hid h
    clear h
    obtain ⟨k, rfl⟩ := Int.eq_ofNat_of_zero_le h0
    have e5 : ((5 * k : Nat) : Int) = 5 * (k : Int) := by omega
    have hc := l3Reduce_any (5 * k) 51 w (by omega) (by omega) (by omega)
    rw [e5] at hc
    clear e5
    go_enter Tryd.func33, Tryd.ntmps33
    go_wp2_with fail
    refine (l1In_any _ _ _ _).mono ?_
    rintro e w' ⟨rfl, rfl⟩
    rw [h'.out]
    go_wp2_with fail
    refine hc.mono ?_
    rintro e w' ⟨rfl, n, rfl⟩
    go_wp2_with fail
    go_ret3
    exact ⟨by rw [barsOf, h'.out]; rfl, n, rfl⟩

end Go.Proofs.YtlkphjlabmnjiaaDoor
