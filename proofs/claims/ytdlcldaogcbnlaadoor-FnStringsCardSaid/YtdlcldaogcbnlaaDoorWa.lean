/- The commonest steps, their plain facts found by the kernel. No program is named here. -/
import Derived.Test.YtdlcldaogcbnlaaDoorWs
namespace Go.Proofs.YtdlcldaogcbnlaaDoor
open Go.RowKit
set_option linter.unusedVariables false

section
variable {P : Program} {ops : Array Oper} {Q : Exit → Act → World → Prop} {W : World} {row : Option Nat} {S : World → Prop}
/-- A frame: what is known of it, the rest by a function. -/
def lk : List (Nat × Value) → Nat → Value → Value
  | [], _, d => d
  | (j, v) :: r, i, d => bif Nat.beq i j then v else lk r i d
def fr (U : Nat → Value) (upd : List (Nat × Value)) : Nat → Nat → List Value
  | 0, _ => []
  | n + 1, i => lk upd i (U i) :: fr U upd n (i + 1)
theorem W.endF {l : List Value} {w : World} (n : Nat) (upd : List (Nat × Value)) (h : ∀ U, Q .normal ⟨(fr U upd n 0).toArray, []⟩ w) (hl : l = fr (fun i => l.getD i undef) upd n 0 := by kernel_rfl) : Ws P ops Q S .nil l w := ⟨Go.Proofs.YtdlcldaogcbnlaaDoor.sch_end (by rw [hl]; exact h _)⟩
theorem W.q {i : Nat} {π : Sch} {l : List Value} {w : World} {o : Oper} {v : Value} {d : Tmp} (hi : ops[i]? = some o := by exact rfl) (hr : ∀ w, S w → (execOp (Act.mk l.toArray []).eval o).run P w = .ok (.value v) w)
    (hw : Region.wanted o (yielded ops l.toArray) = true := by kernel_rfl) (hd : o.dst = some d := by exact rfl) (h : Ws P ops Q S π (l.set d v) w) : Ws P ops Q S (.cons (i, false) π) l w := W.sq hi hr hw hd rfl h
theorem W.mv {i : Nat} {π : Sch} {l : List Value} {w : World} {o : Oper} {x : Operand} {v : Value} {d : Tmp} (hi : ops[i]? = some o := by exact rfl) (ho : o.op = .move x := by exact rfl) (hx : (Act.mk l.toArray []).eval x = v := by kernel_rfl)
    (hw : Region.wanted o (yielded ops l.toArray) = true := by kernel_rfl) (hd : o.dst = some d := by exact rfl) (h : Ws P ops Q S π (l.set d v) w) : Ws P ops Q S (.cons (i, false) π) l w := W.sq hi (r_move ho hx) hw hd rfl h
theorem W.as {i : Nat} {π : Sch} {l : List Value} {w : World} {o : Oper} {x : Operand} {v : Value} {d : Tmp} (hi : ops[i]? = some o := by exact rfl) (ho : o.op = .assign x := by exact rfl) (hx : (Act.mk l.toArray []).eval x = v := by kernel_rfl)
    (hw : Region.wanted o (yielded ops l.toArray) = true := by kernel_rfl) (hd : o.dst = some d := by exact rfl) (h : Ws P ops Q S π (l.set d v) w) : Ws P ops Q S (.cons (i, false) π) l w := W.sq hi (r_assign ho hx) hw hd rfl h
theorem W.fa {i : Nat} {π : Sch} {l : List Value} {w : World} {o : Oper} {x : Operand} {s : TypeId} {f b off : Nat} (k : Nat) {d : Tmp} (hi : ops[i]? = some o := by exact rfl) (ho : o.op = .fieldAddr s x f := by exact rfl) (hx : (Act.mk l.toArray []).eval x = .pointer (some ⟨b, off, none⟩) := by kernel_rfl) (hf : fldOff P s f = some k := by kernel_rfl)
    (hw : Region.wanted o (yielded ops l.toArray) = true := by kernel_rfl) (hd : o.dst = some d := by exact rfl) (h : Ws P ops Q S π (l.set d (.pointer (some ⟨b, off + k, none⟩))) w) : Ws P ops Q S (.cons (i, false) π) l w := W.sq hi (r_field ho hx hf) hw hd rfl h
theorem W.ld {i : Nat} {π : Sch} {l : List Value} {w : World} {o : Oper} {x : Operand} {t : TypeId} {p : Addr} {v : Value} {d : Tmp} (hi : ops[i]? = some o := by exact rfl) (ho : o.op = .load t x := by exact rfl) (hx : (Act.mk l.toArray []).eval x = .pointer (some p) := by kernel_rfl) (ht : aggB P t = some false := by kernel_rfl) (hc : ∀ w, S w → w.cell? p = some v)
    (hw : Region.wanted o (yielded ops l.toArray) = true := by kernel_rfl) (hd : o.dst = some d := by exact rfl) (h : Ws P ops Q S π (l.set d v) w) : Ws P ops Q S (.cons (i, false) π) l w := W.sq hi (r_load ho hx ht hc) hw hd rfl h
theorem W.sp {i : Nat} {b : Bool} {π : Sch} {l : List Value} {w : World} {o : Oper} {d : Tmp} (hS : S w) (hi : ops[i]? = some o := by exact rfl) (hw : Region.wanted o (yielded ops l.toArray) = false := by kernel_rfl) (hd : o.dst = some d := by exact rfl) (h : Ws P ops Q S π (l.set d undef) w) : Ws P ops Q S (.cons (i, b) π) l w := W.sk hS hi hw hd rfl h
end

end Go.Proofs.YtdlcldaogcbnlaaDoor
