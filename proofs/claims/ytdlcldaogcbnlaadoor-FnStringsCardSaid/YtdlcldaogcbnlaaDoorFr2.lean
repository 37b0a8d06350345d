/- Frames that are kept from region to region; what is known of a frame. No program is named here. -/
import Derived.Test.YtdlcldaogcbnlaaDoorFr
namespace Go.Proofs.YtdlcldaogcbnlaaDoor
open Go.RowKit
set_option linter.unusedVariables false

theorem F.begin {P : Program} {Q : Exit → Act → World → Prop} {c : Code} {l : List Value} {w : World} (n : Nat) (upd : List (Nat × Value)) (h : ∀ U, c.wp P Q ⟨(fr U upd n 0).toArray, []⟩ w) (hl : l = fr (fun i => l.getD i undef) upd n 0 := by kernel_rfl) : c.wp P Q ⟨l.toArray, []⟩ w := by
  rw [hl]; exact h _
section
variable {P : Program} {ops : Array Oper} {Q : Exit → Act → World → Prop} {S : World → Prop} {U : Nat → Value} {upd : List (Nat × Value)} {n : Nat}
theorem F.es {w : World} (h : Q .normal ⟨(fr U upd n 0).toArray, []⟩ w) : Ws P ops Q S .nil (fr U upd n 0) w := ⟨Go.Proofs.YtdlcldaogcbnlaaDoor.sch_end h⟩
end
section
variable {P : Program} {ops : Array Oper} {Q : Exit → Act → World → Prop} {S : World → Prop} {U : Nat → Value} {upd : List (Nat × Value)} {n : Nat}
theorem Fq {i : Nat} {π : Sch} {w : World} {o : Oper} {d : Tmp} (v : Value) (hr : ∀ w, S w → (execOp (Act.mk (fr U upd n 0).toArray []).eval o).run P w = .ok (.value v) w) (h : Ws P ops Q S π (fr U ((d, v) :: upd) n 0) w)
    (hi : ops[i]? = some o := by exact rfl) (hw : Region.wanted o (yiF n U upd ops) = true := by kernel_rfl) (hd : o.dst = some d := by exact rfl) : Ws P ops Q S (.cons (i, false) π) (fr U upd n 0) w := F.q hi hr hw hd h
theorem Fv {i : Nat} {π : Sch} {w : World} {o : Oper} {x : Operand} {d : Tmp} (v : Value) (h : Ws P ops Q S π (fr U ((d, v) :: upd) n 0) w) (hi : ops[i]? = some o := by exact rfl) (ho : o.op = .move x := by exact rfl) (hx : evF n U upd x = v := by kernel_rfl)
    (hw : Region.wanted o (yiF n U upd ops) = true := by kernel_rfl) (hd : o.dst = some d := by exact rfl) : Ws P ops Q S (.cons (i, false) π) (fr U upd n 0) w := F.mv hi ho hx hw hd h
theorem Fa {i : Nat} {π : Sch} {w : World} {o : Oper} {x : Operand} {d : Tmp} (v : Value) (h : Ws P ops Q S π (fr U ((d, v) :: upd) n 0) w) (hi : ops[i]? = some o := by exact rfl) (ho : o.op = .assign x := by exact rfl) (hx : evF n U upd x = v := by kernel_rfl)
    (hw : Region.wanted o (yiF n U upd ops) = true := by kernel_rfl) (hd : o.dst = some d := by exact rfl) : Ws P ops Q S (.cons (i, false) π) (fr U upd n 0) w := F.as hi ho hx hw hd h
theorem Fl {i : Nat} {π : Sch} {w : World} {o : Oper} {x : Operand} {t : TypeId} {p : Addr} {d : Tmp} (v : Value) (hc : ∀ w, S w → w.cell? p = some v) (h : Ws P ops Q S π (fr U ((d, v) :: upd) n 0) w) (hi : ops[i]? = some o := by exact rfl) (ho : o.op = .load t x := by exact rfl) (hx : evF n U upd x = .pointer (some p) := by kernel_rfl) (ht : aggB P t = some false := by kernel_rfl)
    (hw : Region.wanted o (yiF n U upd ops) = true := by kernel_rfl) (hd : o.dst = some d := by exact rfl) : Ws P ops Q S (.cons (i, false) π) (fr U upd n 0) w := F.ld hi ho hx ht hc hw hd h
theorem Fs {i : Nat} {b : Bool} {π : Sch} {w : World} {o : Oper} {d : Tmp} (hS : S w) (h : Ws P ops Q S π (fr U ((d, undef) :: upd) n 0) w) (hi : ops[i]? = some o := by exact rfl) (hw : Region.wanted o (yiF n U upd ops) = false := by kernel_rfl) (hd : o.dst = some d := by exact rfl) : Ws P ops Q S (.cons (i, b) π) (fr U upd n 0) w := F.sp hS hi hw hd h
theorem Fc {i : Nat} {π : Sch} {l : List Value} {w : World} {o : Oper} {d : Tmp} {f : FuncId} {as : Array Operand} {ts : Array TypeId} {R : Ending → World → Prop} (vs : List Value) (hc : Calls P f vs.toArray w R) (h : ∀ e w', R e w' → ∃ v, e = .returned v ∧ S w' ∧ Ws P ops Q S π (l.set d v) w')
    (hi : ops[i]? = some o := by exact rfl) (ho : o.op = .call { callee := .value (.func f), args := as, argTypes := ts } := by exact rfl) (hv : as.toList.map (Act.mk l.toArray []).eval = vs := by kernel_rfl) (he : enters P f = true := by kernel_rfl)
    (hw : Region.wanted o (yielded ops l.toArray) = true := by kernel_rfl) (hd : o.dst = some d := by exact rfl) : Ws P ops Q S (.cons (i, true) π) l w := W.sc hi ho hv he hw hd hc h
theorem ek {x : Operand} {v : Value} (h : evF n U upd x = v := by kernel_rfl) : (Act.mk (fr U upd n 0).toArray []).eval x = v := ev_any h
end
theorem kk {α : Sort _} {a b : α} (h : a = b := by kernel_rfl) : a = b := h
theorem wk {P : Program} {Q : Exit → Act → World → Prop} {a : Act} {w : World} {x y : Code} (h : ∀ K : Act → World → Prop, (∀ a w, y.wp P Q a w → K a w) → x.wp P (Exit.then K Q) a w) : (Code.seq x y).wp P Q a w := wp_seq_k h
/-- So much is known of a frame. -/
def Kn (a : Act) (r : List (Nat × Value)) (n : Nat) : Prop := ∃ U : Nat → Value, a = ⟨(fr U r n 0).toArray, []⟩
theorem Kn.of {U : Nat → Value} {upd r : List (Nat × Value)} {n : Nat} (hr : agree U upd r := by repeat (first | exact trivial | refine And.intro (by kernel_rfl) ?_)) : Kn ⟨(fr U upd n 0).toArray, []⟩ r n :=
  ⟨_, by rw [fr_agree hr n 0]⟩

end Go.Proofs.YtdlcldaogcbnlaaDoor
