/- What the library's functions on numbers' texts and texts yield, and what they read. -/
import Derived.Test.YtmfapokolgnnhaaDoorNum1
import Derived.Test.YtmfapokolgnnhaaDoorShelf
import Derived.Test.YtmfapokolgnnhaaDoorChkP
import Derived.MakeChecks
import Derived.Lib.LaidTab
import Derived.WideLaws
import Derived.Stop.LaidErr
import Derived.Lib.SmallJoins
namespace Go.Proofs.YtmfapokolgnnhaaDoor
open Go.RowKit
set_option linter.unusedVariables false
set_option linter.unusedSimpArgs false

theorem tab_kept {w w' : World} (h : Lib.TabIs Tryd.prog w "internal/strconv.uint64pow10" .u64 Lib.pow10Tab) (b : Below w.heap.size w w') : Lib.TabIs Tryd.prog w' "internal/strconv.uint64pow10" .u64 Lib.pow10Tab := Lib.tabBelow_of_tabIs h _ b
theorem itoa_lib (n : Int) (h0 : -9223372036854775808 ≤ n) (h1 : n ≤ 9223372036854775807) (w : World) (htab : Lib.TabIs Tryd.prog w "internal/strconv.uint64pow10" .u64 Lib.pow10Tab) :
    Calls Tryd.prog 63 #[.int .i64 n] w fun e w' => e = .returned (.string (itoaB n)) ∧ Below w.heap.size w w' :=
  (Tryd.strconv_Itoa n (by omega) (by omega) w htab).mono fun e w' ⟨h, k, os, hw⟩ => ⟨h, by subst hw; exact Lib.below_grow _ _ (Nat.le_refl _) k os⟩
theorem laid_plain {l : List (String × DataW Unit)} {W : World} (hp : (l.all fun x => x.2.handleName?.isNone) = true) (h : laidMetH Tryd.prog l W) : laidMet Tryd.prog l W := by
  rw [MakeChecks.laidMetH_plain _ _ _ hp] at h; exact h
theorem tab_of {a b : String × DataW Unit} {rest : List (String × DataW Unit)} {W : World} (h : laidMet Tryd.prog (a :: b :: ("internal/strconv.uint64pow10", Lib.tabData .u64 Lib.pow10Tab) :: rest) W) : Lib.TabIs Tryd.prog W "internal/strconv.uint64pow10" .u64 Lib.pow10Tab :=
  Lib.tabIs_of_head (g := 1) (by kernel_rfl) (t := 109) (by kernel_rfl) (e := 66) (n := 20) (by kernel_rfl) (by kernel_rfl) (by kernel_rfl) (by kernel_rfl) h.tail.tail
section
variable {P : Program} {S : World → Prop} {o : Oper} {a : Act}
theorem r_neqNil0 {t u : TypeId} {x : Operand} (ho : o.op = .binOp .neq t x (.const .nilIface) u) (hx : a.eval x = .nilIface) (ht : P.underlying t = some (.interface (P.methodsAt t))) :
    ∀ w, S w → (execOp a.eval o).run P w = .ok (.value (.bool false)) w := fun w _ => by
  have hc : a.eval (.const .nilIface) = .nilIface := rfl
  simp [execOp, ho, hx, hc, eqGuard, run_neq_nil_nil w t ht]
theorem r_neqNil1 {t u tt : TypeId} {p : Value} {x : Operand} (ho : o.op = .binOp .neq t x (.const .nilIface) u) (hx : a.eval x = .iface tt p) (ht : P.underlying t = some (.interface (P.methodsAt t))) :
    ∀ w, S w → (execOp a.eval o).run P w = .ok (.value (.bool true)) w := fun w _ => by
  have hc : a.eval (.const .nilIface) = .nilIface := rfl
  simp [execOp, ho, hx, hc, eqGuard, run_neq_held_nil w t tt p ht]
theorem r_eqlNil0 {t u : TypeId} {x : Operand} (ho : o.op = .binOp .eql t x (.const .nilIface) u) (hx : a.eval x = .nilIface) (ht : P.underlying t = some (.interface (P.methodsAt t))) :
    ∀ w, S w → (execOp a.eval o).run P w = .ok (.value (.bool true)) w := fun w _ => by
  have hc : a.eval (.const .nilIface) = .nilIface := rfl
  simp [execOp, ho, hx, hc, eqGuard, run_eql_nil_nil w t ht]
theorem r_eqlNil1 {t u tt : TypeId} {p : Value} {x : Operand} (ho : o.op = .binOp .eql t x (.const .nilIface) u) (hx : a.eval x = .iface tt p) (ht : P.underlying t = some (.interface (P.methodsAt t))) :
    ∀ w, S w → (execOp a.eval o).run P w = .ok (.value (.bool false)) w := fun w _ => by
  have hc : a.eval (.const .nilIface) = .nilIface := rfl
  simp [execOp, ho, hx, hc, eqGuard, run_eql_held_nil w t tt p ht]
end

def MaxIs (w : World) : Prop := ∃ m, w.cell? ⟨0, 0, none⟩ = some (.int .i64 m)
theorem max_kept {w w' : World} (h : MaxIs w) (b : Below w.heap.size w w') : MaxIs w' := let ⟨m, h1⟩ := h; ⟨m, later b h1⟩
end Go.Proofs.YtmfapokolgnnhaaDoor
