/- Shifts, bits, remainders, conversions. No program is named here. -/
import Derived.Test.YtdlcldaogcbnlaaDoorSch7
namespace Go.Proofs.YtdlcldaogcbnlaaDoor
open Go.RowKit
set_option linter.unusedVariables false
set_option linter.unusedSimpArgs false

section
variable {P : Program} {S : World → Prop} {o : Oper} {a : Act}
theorem r_shr {t u : TypeId} {x y : Operand} {q k : Nat} {yk : IntKind} (ho : o.op = .binOp .shr t x y u) (hx : a.eval x = .int .i64 (q : Int)) (hy : a.eval y = .int yk (k : Int)) (hk : k ≤ 64) :
    ∀ w, S w → (execOp a.eval o).run P w = .ok (.value (.int .i64 ((q / 2 ^ k : Nat) : Int))) w := fun w _ => by
  have hs := shift_shr .i64 yk (q : Int) (k : Int) (by omega) (by show (k : Int) ≤ ((64 : Nat) : Int); omega)
  rw [Int.toNat_natCast, show ((q : Int) / 2 ^ k) = ((q / 2 ^ k : Nat) : Int) by simp] at hs
  simp [execOp, ho, hx, hy, eqGuard, binOp, hs]
theorem r_shl {t u : TypeId} {x y : Operand} {k : Nat} {yk : IntKind} (ho : o.op = .binOp .shl t x y u) (hx : a.eval x = .int .i64 1) (hy : a.eval y = .int yk (k : Int)) (hk : k ≤ 20) :
    ∀ w, S w → (execOp a.eval o).run P w = .ok (.value (.int .i64 ((2 ^ k : Nat) : Int))) w := fun w _ => by
  have h2 : (2 : Nat) ^ k ≤ 2 ^ 20 := Nat.pow_le_pow_right (by omega) hk
  have hw : IntKind.i64.wrap (1 * 2 ^ k) = ((2 ^ k : Nat) : Int) := by
    rw [Int.one_mul, show ((2 : Int) ^ k) = ((2 ^ k : Nat) : Int) by simp]; exact IntWalk.i64_in _ ⟨Int.le_trans (by decide) (Int.natCast_nonneg _), Int.le_trans (Int.ofNat_le.2 h2) (by decide)⟩
  have hs : binOp .shl t (.int .i64 1) (.int yk (k : Int)) = pure (.int .i64 ((2 ^ k : Nat) : Int)) := by
    show Op.shift .shl .i64 1 yk (k : Int) = _
    rw [shift_shl .i64 yk 1 (k : Int) (by omega) (by show (k : Int) ≤ ((64 : Nat) : Int); omega), Int.toNat_natCast, hw]
  generalize ((2 ^ k : Nat) : Int) = z at hs ⊢
  simp [execOp, ho, hx, hy, eqGuard, hs]
theorem r_and1 {t u : TypeId} {x y : Operand} {q : Nat} (ho : o.op = .binOp .and t x y u) (hx : a.eval x = .int .i64 (q : Int)) (hy : a.eval y = .int .i64 1) (hq : q < 9223372036854775808) :
    ∀ w, S w → (execOp a.eval o).run P w = .ok (.value (.int .i64 ((q % 2 : Nat) : Int))) w := fun w _ => by
  have hs : Op.intBits .and .i64 (q : Int) 1 = pure (.int .i64 ((q % 2 : Nat) : Int)) := by
    unfold Op.intBits
    have e1 : (BitVec.ofInt IntKind.i64.bits (q : Int) &&& BitVec.ofInt IntKind.i64.bits 1).toNat = q % 2 := by
      rw [show (1 : Int) = ((1 : Nat) : Int) from rfl, BitVec.ofInt_natCast, BitVec.ofInt_natCast, BitVec.toNat_and, BitVec.toNat_ofNat, BitVec.toNat_ofNat]
      show q % 2 ^ 64 &&& 1 % 2 ^ 64 = q % 2
      rw [Nat.mod_eq_of_lt (by omega : q < 2 ^ 64), show 1 % 2 ^ 64 = 1 from rfl, Nat.and_one_is_mod]
    simp only [e1]
    rw [IntWalk.i64_in _ (by omega)]
  simp [execOp, ho, hx, hy, eqGuard, binOp, hs]
/-- To an unsigned kind, of a number that is not negative. -/
theorem r_convU {src dst : TypeId} {x : Operand} {k : Nat} (ho : o.op = .convert src dst x) (hx : a.eval x = .int .i64 (k : Int)) (hs : (P.underlying src).isSome = true) (hd : P.underlying dst = some (.int .u64)) (hk : k < 9223372036854775808) :
    ∀ w, S w → (execOp a.eval o).run P w = .ok (.value (.int .u64 (k : Int))) w := fun w _ => by
  have hw : IntKind.u64.wrap (k : Int) = (k : Int) := IntWalk.u64_in _ (by omega)
  obtain ⟨s, hs'⟩ := Option.isSome_iff_exists.1 hs
  simp [execOp, ho, hx, convert, underlying, hs', hd, Conv.intToInt, hw]
end
theorem sp_of_nbr {A : Option Addr} {n n' c : Nat} {u : Value} (h : NbR (.slice A n' c) u) : Sp A n u.ownBlock := fun _ b off e e2 => h b (by rw [e]; simp [Value.ownBlock]) e2.symm
theorem sp_of_nb {A : Option Addr} {n n' c b : Nat} (h : Nb b (.slice A n' c)) : Sp A n (some b) := fun _ b' off e e2 => h (by rw [e]; simp [Value.ownBlock]; cases e2; rfl)

end Go.Proofs.YtdlcldaogcbnlaaDoor
