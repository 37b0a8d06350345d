/- What the library's functions on numbers' texts and texts yield, and what they read. -/
import Derived.Test.YtdlcldaogcbnlaaDoorNum1
import Derived.Test.YtdlcldaogcbnlaaDoorShelf
import Derived.Test.YtdlcldaogcbnlaaDoorChkP
import Derived.MakeChecks
import Derived.Lib.LaidTab
import Derived.WideLaws
import Derived.Stop.LaidErr
import Derived.Lib.SmallJoins
namespace Go.Proofs.YtdlcldaogcbnlaaDoor
open Go.RowKit
set_option linter.unusedVariables false
set_option linter.unusedSimpArgs false

theorem tab_kept {w w' : World} (h : Lib.TabIs Tryd.prog w "internal/strconv.uint64pow10" .u64 Lib.pow10Tab) (b : Below w.heap.size w w') : Lib.TabIs Tryd.prog w' "internal/strconv.uint64pow10" .u64 Lib.pow10Tab := Lib.tabBelow_of_tabIs h _ b
theorem itoa_lib (n : Int) (h0 : -9223372036854775808 ≤ n) (h1 : n ≤ 9223372036854775807) (w : World) (htab : Lib.TabIs Tryd.prog w "internal/strconv.uint64pow10" .u64 Lib.pow10Tab) :
    Calls Tryd.prog 66 #[.int .i64 n] w fun e w' => e = .returned (.string (itoaB n)) ∧ Below w.heap.size w w' :=
  (Tryd.strconv_Itoa n (by omega) (by omega) w htab).mono fun e w' ⟨h, k, os, hw⟩ => ⟨h, by subst hw; exact Lib.below_grow _ _ (Nat.le_refl _) k os⟩
theorem laid_plain {l : List (String × DataW Unit)} {W : World} (hp : (l.all fun x => x.2.handleName?.isNone) = true) (h : laidMetH Tryd.prog l W) : laidMet Tryd.prog l W := by
  rw [MakeChecks.laidMetH_plain _ _ _ hp] at h; exact h
theorem tab_of {a b : String × DataW Unit} {rest : List (String × DataW Unit)} {W : World} (h : laidMet Tryd.prog (a :: b :: ("internal/strconv.uint64pow10", Lib.tabData .u64 Lib.pow10Tab) :: rest) W) : Lib.TabIs Tryd.prog W "internal/strconv.uint64pow10" .u64 Lib.pow10Tab :=
  Lib.tabIs_of_head (g := 3) (by kernel_rfl) (t := 126) (by kernel_rfl) (e := 64) (n := 20) (by kernel_rfl) (by kernel_rfl) (by kernel_rfl) (by kernel_rfl) h.tail.tail
section
variable {P : Program} {S : World → Prop} {o : Oper} {a : Act}
theorem r_neqNil0 {t u : TypeId} {x : Operand} (ho : o.op = .binOp .neq t x (.const .nilIface) u) (hx : a.eval x = .nilIface) (ht : P.underlying t = some (.interface (P.methodsAt t))) :
    ∀ w, S w → (execOp a.eval o).run P w = .ok (.value (.bool false)) w := fun w _ => by
  have hc : a.eval (.const .nilIface) = .nilIface := rfl
  simp [execOp, ho, hx, hc, eqGuard, run_neq_nil_nil w t ht]
theorem r_neqNil1 {t u tt : TypeId} {p : Value} {x : Operand} (ho : o.op = .binOp .neq t x (.const .nilIface) u) (hx : a.eval x = .iface tt p) (ht : P.underlying t = some (.interface (P.methodsAt t))) :
    ∀ w, S w → (execOp a.eval o).run P w = .ok (.value (.bool true)) w := fun w _ => by
  have hc : a.eval (.const .nilIface) = .nilIface := rfl
  simp [execOp, ho, hx, hc, eqGuard, run_neq_held_nil w t tt p ht]
theorem r_eqlNil0 {t u : TypeId} {x : Operand} (ho : o.op = .binOp .eql t x (.const .nilIface) u) (hx : a.eval x = .nilIface) (ht : P.underlying t = some (.interface (P.methodsAt t))) :
    ∀ w, S w → (execOp a.eval o).run P w = .ok (.value (.bool true)) w := fun w _ => by
  have hc : a.eval (.const .nilIface) = .nilIface := rfl
  simp [execOp, ho, hx, hc, eqGuard, run_eql_nil_nil w t ht]
theorem r_eqlNil1 {t u tt : TypeId} {p : Value} {x : Operand} (ho : o.op = .binOp .eql t x (.const .nilIface) u) (hx : a.eval x = .iface tt p) (ht : P.underlying t = some (.interface (P.methodsAt t))) :
    ∀ w, S w → (execOp a.eval o).run P w = .ok (.value (.bool false)) w := fun w _ => by
  have hc : a.eval (.const .nilIface) = .nilIface := rfl
  simp [execOp, ho, hx, hc, eqGuard, run_eql_held_nil w t tt p ht]
end

theorem atoi_ok (s : ByteArray) (n : Int) (w : World) (hs : s.size ≤ 18) (hat : Lib.atoi s.data.toList = some n) :
    Calls Tryd.prog 70 #[.string s] w fun e w' => e = .returned (.tuple #[.int .i64 n, .nilIface]) ∧ Below w.heap.size w w' :=
  (Tryd.strconv_Atoi s n hs hat w).mono fun e w' ⟨h, t, hw⟩ => ⟨h, by subst hw; exact Joins.below_bytesWorld _ _ _ _ (Nat.le_refl _)⟩
theorem rowErr (u : TypeId) (h : Tryd.prog.typeName? 3 u = some "*errors.errorString") : u = 132 :=
  typeName_ptr_named (nm := "errors.errorString") (by rw [show "*" ++ "errors.errorString" = "*errors.errorString" by decide]; kernel_rfl) (by kernel_rfl) (by decide) u (by rw [show "*" ++ "errors.errorString" = "*errors.errorString" by decide]; exact h)
def EvIs (w : World) : Prop := ∃ ev, w.cell? ⟨0, 0, none⟩ = some ev ∧ (ev = .nilIface ∨ ∃ te pe, ev = .iface te pe)
theorem ev_kept {w w' : World} (h : EvIs w) (b : Below w.heap.size w w') : EvIs w' := let ⟨ev, h1, h2⟩ := h; ⟨ev, later b h1, h2⟩
theorem ev_of {a b c d : String × DataW Unit} {text : List UInt8} {rest : List (String × DataW Unit)} {W : World} (h : laidMet Tryd.prog (a :: b :: c :: d :: ("strconv.ErrSyntax", .iface "*errors.errorString" (.ptr (.agg [.lit (.string text)]))) :: rest) W) : EvIs W := by
  obtain ⟨a0, s0, hv0, _⟩ := laid_sentinel h.tail.tail.tail.tail (g := 0) (by kernel_rfl) (ti := 79) (by kernel_rfl) Tryd.underlying79 rowErr Tryd.underlying132 Tryd.underlying134 rfl rfl Tryd.underlying9 (by kernel_rfl) (by kernel_rfl)
  exact ⟨_, by have h0 := World.var?_cell (show Tryd.prog.globalNamed "strconv.ErrSyntax" = some 0 by kernel_rfl) hv0 0; simpa using h0, .inr ⟨_, _, rfl⟩⟩
theorem atoi_err (s : ByteArray) (w : World) (hs : s.size ≤ 18) (hat : Lib.atoi s.data.toList = none) (hev : EvIs w) :
    Calls Tryd.prog 70 #[.string s] w fun e w' => ∃ t p, e = .returned (.tuple #[.int .i64 0, .iface t p]) ∧ Below w.heap.size w w' := by
  obtain ⟨ev, h1, h2⟩ := hev
  exact (Tryd.strconv_Atoi_err s hs hat ev w h1 h2).mono fun e w' ⟨N, h, _, _, b⟩ => ⟨_, _, h, b⟩

theorem contains_lib (s : ByteArray) (w : World) : Calls Tryd.prog 73 #[.string s, .string (⟨#[35]⟩ : ByteArray)] w fun e w' => e = .returned (.bool (standsB s 35)) ∧ Below w.heap.size w w' :=
  (Tryd.strings_Contains_one s 35 w).mono fun e w' ⟨h, hw⟩ => ⟨by rw [h, idxB_iff (c := 35) (by omega)]; rfl, by subst hw; exact Below.refl _ _⟩
def MaxIs (w : World) : Prop := ∃ m, w.cell? ⟨2, 0, none⟩ = some (.int .i64 m)
theorem max_kept {w w' : World} (h : MaxIs w) (b : Below w.heap.size w w') : MaxIs w' := let ⟨m, h1⟩ := h; ⟨m, later b h1⟩
theorem max_of {w : World} (h : w.ShapedOpen Tryd.prog) : MaxIs w := Tryd.laysM145.s1_3 w h
theorem cut_lib (s : ByteArray) (c : UInt8) (w : World) (hs : s.size ≤ 1048576) (hmax : MaxIs w) :
    Calls Tryd.prog 77 #[.string s, .string (⟨#[c]⟩ : ByteArray)] w fun e w' => ∃ r, e = .returned (.tuple #[.string (headB s c.toNat), .string r, .bool (standsB s c.toNat)]) ∧ r = tailB s c.toNat ∧ Below w.heap.size w w' := by
  obtain ⟨m, hm⟩ := hmax
  refine (Tryd.strings_Cut s ⟨#[c]⟩ m w (by omega) hm).mono fun e w' ⟨h, n, hw⟩ => ⟨tailB s c.toNat, ?_, rfl, by subst hw; exact below_drewN (Below.refl _ _) n⟩
  obtain ⟨h1, h2⟩ := cut_one s (c := c.toNat) c.toNat_lt
  have h3 := cut_tail s (c := c.toNat) c.toNat_lt
  rw [UInt8.ofNat_toNat] at h1 h2 h3
  rw [h]
  show Ending.returned (.tuple #[.string ⟨(Lib.cut s.data.toList [c]).1.toArray⟩, .string ⟨(Lib.cut s.data.toList [c]).2.1.toArray⟩, .bool (Lib.cut s.data.toList [c]).2.2]) = _
  rw [h1, h2, h3]

end Go.Proofs.YtdlcldaogcbnlaaDoor
