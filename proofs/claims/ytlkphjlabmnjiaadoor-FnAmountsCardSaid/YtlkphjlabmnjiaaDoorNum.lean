/- Small functions on whole numbers, of the program and of the reference: a range's test, the sign taken off, the greatest common divisor, a fraction in lowest terms. Conditions: the numbers are small where they are reckoned with. -/
import Derived.Test.YtlkphjlabmnjiaaDoorIn
import Derived.Test.YtlkphjlabmnjiaaDoorBase
import Derived.Deep.QuietTactic
import Derived.BigQuiet
import Derived.Outline
namespace Go.Proofs.YtlkphjlabmnjiaaDoor
open Go.RowKit
set_option linter.unusedVariables false

theorem absOf_any (n : Int) (w : World) (h0 : -4611686018427387904 ≤ n) (h1 : n ≤ 4611686018427387904) :
    Calls Tryd.prog 78 #[.int .i64 n] w fun e w' => e = .returned (.int .i64 (max n (-n))) ∧ w = w' := by
  go_enter Tryd.func78, Tryd.ntmps78
  go_wp2
  all_goals go_ret
  all_goals exact ⟨ret_int (by omega), rfl⟩
theorem l1Most_any (a b : Int) (w : World) :
    Calls Tryd.prog 77 #[.int .i64 a, .int .i64 b] w fun e w' => e = .returned (.int .i64 (max a b)) ∧ w = w' := by
  go_enter Tryd.func77, Tryd.ntmps77
  go_wp2
  all_goals go_ret
  all_goals exact ⟨ret_int (by omega), rfl⟩

set_option maxHeartbeats 400000 in
theorem gcdOf_any (a b : Nat) (w : World) (ha : a ≤ 4611686018427387904) (hb : b ≤ 4611686018427387904) :
    Calls Tryd.prog 68 #[.int .i64 a, .int .i64 b] w fun e w' => e = .returned (.int .i64 (Nat.gcd a b)) ∧ ∃ n, w' = w.drewN n := by
  have ea : max (a : Int) (-(a : Int)) = a := by omega
  have eb : max (b : Int) (-(b : Int)) = b := by omega
  go_enter Tryd.func68, Tryd.ntmps68
  go_wp2_with fail
  refine (absOf_any _ _ (by omega) (by omega)).mono ?_
  rintro e w' ⟨rfl, rfl⟩
  rw [ea]
  go_wp2_with fail
  refine (absOf_any _ _ (by omega) (by omega)).mono ?_
  rintro e w' ⟨rfl, rfl⟩
  rw [eb]
  go_wp2_with fail
  clear ea eb
  go_loopw [0, 1] (fun x y wr => ∃ p q n : Nat, x = .int .i64 p ∧ y = .int .i64 q ∧ p ≤ 4611686018427387904 ∧ q ≤ 4611686018427387904 ∧ Hid (Nat.gcd p q = Nat.gcd a b) ∧ wr = w.drewN n) (fun _ y _ => (intOf y).toNat)
  case atStart => exact ⟨a, b, 0, rfl, rfl, ha, hb, Lib.hid rfl, rfl⟩
  case round =>
    obtain ⟨p, q, n, rfl, rfl, hp, hq, H, rfl⟩ := hrel
    by_cases hz : q = 0
    · subst hz
      have H' : Hid (p = Nat.gcd a b) := by have := H.out; rw [Nat.gcd_zero_right] at this; exact this
      clear H
      go_wp2
      go_ret
      exact ⟨ret_int (by rw [H'.out]), n, rfl⟩
    · have h1 : (1 : Int) ≤ q := by omega
      have hr : Hid (Nat.gcd q (p % q) = Nat.gcd a b) := by have := H.out; rw [Nat.gcd_comm, Nat.gcd_rec, Nat.gcd_comm] at this; exact this
      clear H
      go_wp2_with fail
      go_quiet (fail)
      go_wp2
      go_roundw
      case rel => exact ⟨q, p % q, _, rfl, by go_num, hq, by have := Nat.mod_lt p (show q > 0 by omega); omega, hr, by simp [World.drewN_drewN]; rfl⟩
      case measure => simp [intOf]; have := Nat.mod_lt p (show q > 0 by omega); omega

set_option maxHeartbeats 400000 in
theorem l3Common_any (a b : Nat) (w : World) (ha : a ≤ 4611686018427387904) (hb : b ≤ 4611686018427387904) :
    Calls Tryd.prog 66 #[.int .i64 a, .int .i64 b] w fun e w' => e = .returned (.int .i64 (Nat.gcd a b)) ∧ ∃ n, w' = w.drewN n := by
  have ea : max (a : Int) (-(a : Int)) = a := by omega
  have eb : max (b : Int) (-(b : Int)) = b := by omega
  go_enter Tryd.func66, Tryd.ntmps66
  go_wp2_with fail
  refine (l1Most_any _ _ _).mono ?_
  rintro e w' ⟨rfl, rfl⟩
  rw [ea]
  go_wp2_with fail
  refine (l1Most_any _ _ _).mono ?_
  rintro e w' ⟨rfl, rfl⟩
  rw [eb]
  go_wp2_with fail
  clear ea eb
  go_loopw [0, 1] (fun x y wr => ∃ p q n : Nat, x = .int .i64 p ∧ y = .int .i64 q ∧ p ≤ 4611686018427387904 ∧ q ≤ 4611686018427387904 ∧ Hid (Nat.gcd p q = Nat.gcd a b) ∧ wr = w.drewN n) (fun _ y _ => (intOf y).toNat)
  case atStart => exact ⟨a, b, 0, rfl, rfl, ha, hb, Lib.hid rfl, rfl⟩
  case round =>
    obtain ⟨p, q, n, rfl, rfl, hp, hq, H, rfl⟩ := hrel
    by_cases hz : q = 0
    · subst hz
      have H' : Hid (p = Nat.gcd a b) := by have := H.out; rw [Nat.gcd_zero_right] at this; exact this
      clear H
      go_wp2
      go_ret
      exact ⟨ret_int (by rw [H'.out]), n, rfl⟩
    · have h1 : (1 : Int) ≤ q := by omega
      have hr : Hid (Nat.gcd q (p % q) = Nat.gcd a b) := by have := H.out; rw [Nat.gcd_comm, Nat.gcd_rec, Nat.gcd_comm] at this; exact this
      clear H
      go_wp2
      go_roundw
      case rel => exact ⟨q, p % q, n, rfl, by go_num, hq, by have := Nat.mod_lt p (show q > 0 by omega); omega, hr, rfl⟩
      case measure => simp [intOf]; have := Nat.mod_lt p (show q > 0 by omega); omega

theorem wrap_quo (a g : Nat) (ha : a ≤ 4611686018427387904) : wrap64 ((a : Int) / (g : Int)) = (a : Int) / (g : Int) := by
  have h : a / g ≤ a := Nat.div_le_self _ _
  have e : (a : Int) / (g : Int) = ((a / g : Nat) : Int) := by simp
  rw [e]
  generalize a / g = x at h ⊢
  exact IntWalk.wrap64_in _ ⟨by omega, by omega⟩
theorem gcd_le_small (a b : Nat) (hb : 0 < b) (ha : a ≤ 4611686018427387904) (hb' : b ≤ 4611686018427387904) : 1 ≤ Nat.gcd a b ∧ Nat.gcd a b ≤ 4611686018427387904 := by
  have h1 : 0 < Nat.gcd a b := Nat.gcd_pos_of_pos_right _ hb
  have h2 := Nat.le_of_dvd hb (Nat.gcd_dvd_right a b)
  omega

set_option maxHeartbeats 400000 in
theorem lowestTerms_any (a b : Nat) (w : World) (hb0 : 0 < b) (ha : a ≤ 4611686018427387904) (hb : b ≤ 4611686018427387904) :
    Calls Tryd.prog 49 #[.int .i64 a, .int .i64 b] w fun e w' => e = .returned (.tuple #[.int .i64 ((a / Nat.gcd a b : Nat) : Int), .int .i64 ((b / Nat.gcd a b : Nat) : Int)]) ∧ ∃ n, w' = w.drewN n := by
  have hg := gcd_le_small a b hb0 ha hb
  have hc := gcdOf_any a b w ha hb
  obtain ⟨g, hx⟩ : ∃ g, g = Nat.gcd a b := ⟨_, rfl⟩
  rw [← hx] at hc hg ⊢
  clear hx
  have h1 : (1 : Int) ≤ g := by omega
  have h2 : (g : Int) ≤ 4611686018427387904 := by omega
  go_enter Tryd.func49, Tryd.ntmps49
  go_wp2_with fail
  refine hc.mono ?_
  rintro e w' ⟨rfl, n, rfl⟩
  clear hc
  go_wp2_with fail
  go_quiet (fail)
  go_wp2
  go_ret2
  exact ⟨by simp [wrap_quo a g ha, wrap_quo b g hb], _, by simp [World.drewN_drewN]; rfl⟩

set_option maxHeartbeats 400000 in
theorem l3Reduce_any (a b : Nat) (w : World) (hb0 : 0 < b) (ha : a ≤ 4611686018427387904) (hb : b ≤ 4611686018427387904) :
    Calls Tryd.prog 42 #[.int .i64 a, .int .i64 b] w fun e w' => e = .returned (.tuple #[.int .i64 ((a / Nat.gcd a b : Nat) : Int), .int .i64 ((b / Nat.gcd a b : Nat) : Int)]) ∧ ∃ n, w' = w.drewN n := by
  have hg := gcd_le_small a b hb0 ha hb
  have hc := l3Common_any a b w ha hb
  obtain ⟨g, hx⟩ : ∃ g, g = Nat.gcd a b := ⟨_, rfl⟩
  rw [← hx] at hc hg ⊢
  clear hx
  have h1 : (1 : Int) ≤ g := by omega
  have h2 : (g : Int) ≤ 4611686018427387904 := by omega
  go_enter Tryd.func42, Tryd.ntmps42
  go_wp2_with fail
  refine hc.mono ?_
  rintro e w' ⟨rfl, n, rfl⟩
  clear hc
  go_wp2_with fail
  go_quiet (fail)
  go_wp2
  go_ret2
  exact ⟨by simp [wrap_quo a g ha, wrap_quo b g hb], _, by simp [World.drewN_drewN]; rfl⟩

end Go.Proofs.YtlkphjlabmnjiaaDoor
