/- Frames that are told by what is known of them: looked into and changed without being written out. No program is named here. -/
import Derived.Test.YtdlcldaogcbnlaaDoorSm
import Derived.Test.YtdlcldaogcbnlaaDoorWa
namespace Go.Proofs.YtdlcldaogcbnlaaDoor
open Go.RowKit
set_option linter.unusedVariables false

theorem fr_skip (U : Nat → Value) (upd : List (Nat × Value)) (i : Nat) (v : Value) : ∀ n j, i < j → fr U ((i, v) :: upd) n j = fr U upd n j
  | 0, _, _ => rfl
  | n + 1, j, h => by
    unfold fr
    rw [fr_skip U upd i v n (j + 1) (by omega)]
    have : Nat.beq j i = false := by rw [Nat.beq_eq_false_iff_ne]; omega
    show (bif Nat.beq j i then v else lk upd j (U j)) :: _ = _
    rw [this]; rfl
where
  Nat.beq_eq_false_iff_ne {a b : Nat} : Nat.beq a b = false ↔ a ≠ b := by
    rw [← Bool.not_eq_true, Nat.beq_eq]
theorem fr_set (U : Nat → Value) (upd : List (Nat × Value)) (v : Value) : ∀ n i k, (fr U upd n i).set k v = fr U ((i + k, v) :: upd) n i
  | 0, _, _ => rfl
  | n + 1, i, 0 => by
    show v :: fr U upd n (i + 1) = (bif Nat.beq i (i + 0) then v else _) :: fr U ((i + 0, v) :: upd) n (i + 1)
    simp only [Nat.add_zero]
    rw [fr_skip U upd i v n (i + 1) (by omega), Nat.beq_refl]; rfl
  | n + 1, i, k + 1 => by
    show lk upd i (U i) :: (fr U upd n (i + 1)).set k v = (bif Nat.beq i (i + (k + 1)) then v else lk upd i (U i)) :: fr U ((i + (k + 1), v) :: upd) n (i + 1)
    have : Nat.beq i (i + (k + 1)) = false := by rw [← Bool.not_eq_true, Nat.beq_eq]; omega
    rw [fr_set U upd v n (i + 1) k, this, show i + 1 + k = i + (k + 1) by omega]; rfl
theorem fr_len (U : Nat → Value) (upd : List (Nat × Value)) : ∀ n i, (fr U upd n i).length = n
  | 0, _ => rfl
  | n + 1, i => by unfold fr; rw [List.length_cons, fr_len U upd n (i + 1)]
theorem fr_get (U : Nat → Value) (upd : List (Nat × Value)) : ∀ n i k, k < n → (fr U upd n i)[k]? = some (lk upd (i + k) (U (i + k)))
  | 0, _, _, h => absurd h (by omega)
  | n + 1, i, 0, _ => rfl
  | n + 1, i, k + 1, h => by
    unfold fr
    rw [List.getElem?_cons_succ, fr_get U upd n (i + 1) k (by omega), show i + 1 + k = i + (k + 1) by omega]
/-- What an operand is. -/
def evF (n : Nat) (U : Nat → Value) (upd : List (Nat × Value)) : Operand → Value
  | .tmp t => bif Nat.blt t n then lk upd t (U t) else undef
  | .const v => v
  | .global g => .pointer (some ⟨g, 0, none⟩)
  | .func f => .func (.func f) #[] #[]
theorem ev_fr (U : Nat → Value) (upd : List (Nat × Value)) (n : Nat) (x : Operand) : (Act.mk (fr U upd n 0).toArray []).eval x = evF n U upd x := by
  cases x with
  | tmp t =>
    show (fr U upd n 0).toArray.getD t undef = bif Nat.blt t n then lk upd t (U t) else undef
    have e : (fr U upd n 0).toArray.getD t undef = (fr U upd n 0)[t]?.getD undef := by simp
    rw [e]
    by_cases h : t < n
    · rw [fr_get U upd n 0 t h, Nat.zero_add]
      have : Nat.blt t n = true := by simpa [Nat.blt_eq] using h
      rw [this]; rfl
    · have : Nat.blt t n = false := by rw [← Bool.not_eq_true, Nat.blt_eq]; exact h
      rw [this, List.getElem?_eq_none (by rw [fr_len]; exact Nat.le_of_not_lt h)]; rfl
  | const v => rfl
  | global g => rfl
  | func f => rfl
theorem ev_any {U : Nat → Value} {upd : List (Nat × Value)} {n : Nat} {x : Operand} {v : Value} (h : evF n U upd x = v) : (Act.mk (fr U upd n 0).toArray []).eval x = v := (ev_fr U upd n x).trans h
/-- What a guard's operation has yielded. -/
def yiF (n : Nat) (U : Nat → Value) (upd : List (Nat × Value)) (ops : Array Oper) (j : Nat) : Option Bool :=
  match (ops[j]?).bind (·.dst) with
  | some d => (match (bif Nat.blt d n then lk upd d (U d) else undef) with | .bool b => bif Nat.blt d n then some b else none | _ => none)
  | none => none
theorem yi_fr (U : Nat → Value) (upd : List (Nat × Value)) (n : Nat) (ops : Array Oper) (j : Nat) : yielded ops (fr U upd n 0).toArray j = yiF n U upd ops j := by
  unfold yielded yiF
  cases (ops[j]?).bind (·.dst) with
  | none => rfl
  | some d =>
    show (match (fr U upd n 0).toArray[d]? with | some (.bool b) => some b | _ => none) = _
    rw [List.getElem?_toArray]
    by_cases h : d < n
    · rw [fr_get U upd n 0 d h, Nat.zero_add]
      have : Nat.blt d n = true := by simpa [Nat.blt_eq] using h
      simp only [this, cond_true]
      cases lk upd d (U d) <;> rfl
    · have : Nat.blt d n = false := by rw [← Bool.not_eq_true, Nat.blt_eq]; exact h
      have h2 : (fr U upd n 0)[d]? = none := List.getElem?_eq_none (by rw [fr_len]; exact Nat.le_of_not_lt h)
      rw [h2]
      simp only [this, cond_false]
      generalize (undef : Value) = u
      cases u <;> rfl
theorem wa_fr {U : Nat → Value} {upd : List (Nat × Value)} {n : Nat} {ops : Array Oper} {o : Oper} {b : Bool} (h : Region.wanted o (yiF n U upd ops) = b) : Region.wanted o (yielded ops (fr U upd n 0).toArray) = b := by
  rw [show yielded ops (fr U upd n 0).toArray = yiF n U upd ops from funext (yi_fr U upd n ops)]; exact h
/-- A smaller list of what is known. -/
def agree (U : Nat → Value) (upd : List (Nat × Value)) : List (Nat × Value) → Prop
  | [] => True
  | (j, v) :: r => lk upd j (U j) = v ∧ agree U upd r
theorem lk_agree {U : Nat → Value} {upd : List (Nat × Value)} : ∀ {r : List (Nat × Value)}, agree U upd r → ∀ i, lk r i (lk upd i (U i)) = lk upd i (U i)
  | [], _, _ => rfl
  | (j, v) :: r, h, i => by
    show (bif Nat.beq i j then v else lk r i (lk upd i (U i))) = _
    by_cases e : i = j
    · subst e; rw [Nat.beq_refl]; exact h.1.symm
    · have : Nat.beq i j = false := by rw [← Bool.not_eq_true, Nat.beq_eq]; exact e
      rw [this]; exact lk_agree h.2 i
theorem fr_agree {U : Nat → Value} {upd r : List (Nat × Value)} (h : agree U upd r) : ∀ n i, fr U upd n i = fr (fun i => lk upd i (U i)) r n i
  | 0, _ => rfl
  | n + 1, i => by unfold fr; rw [fr_agree h n (i + 1), lk_agree h i]

section
variable {P : Program} {ops : Array Oper} {Q : Exit → Act → World → Prop} {W : World} {row : Option Nat} {S : World → Prop} {U : Nat → Value} {upd : List (Nat × Value)} {n : Nat}
theorem F.nx {π : Sch} {w : World} {d : Nat} {v : Value} (h : Ws P ops Q S π (fr U ((d, v) :: upd) n 0) w) : Ws P ops Q S π ((fr U upd n 0).set d v) w := by
  rw [fr_set U upd v n 0 d, Nat.zero_add]; exact h
theorem F.endF {w : World} (r : List (Nat × Value)) (h : ∀ U, Q .normal ⟨(fr U r n 0).toArray, []⟩ w) (hr : agree U upd r := by repeat (first | exact trivial | refine And.intro (by kernel_rfl) ?_)) : Ws P ops Q S .nil (fr U upd n 0) w :=
  ⟨Go.Proofs.YtdlcldaogcbnlaaDoor.sch_end (by rw [fr_agree hr n 0]; exact h _)⟩
theorem F.q {i : Nat} {π : Sch} {w : World} {o : Oper} {v : Value} {d : Tmp} (hi : ops[i]? = some o := by exact rfl) (hr : ∀ w, S w → (execOp (Act.mk (fr U upd n 0).toArray []).eval o).run P w = .ok (.value v) w)
    (hw : Region.wanted o (yiF n U upd ops) = true := by kernel_rfl) (hd : o.dst = some d := by exact rfl) (h : Ws P ops Q S π (fr U ((d, v) :: upd) n 0) w) : Ws P ops Q S (.cons (i, false) π) (fr U upd n 0) w := W.sq hi hr (wa_fr hw) hd rfl (F.nx h)
theorem F.mv {i : Nat} {π : Sch} {w : World} {o : Oper} {x : Operand} {v : Value} {d : Tmp} (hi : ops[i]? = some o := by exact rfl) (ho : o.op = .move x := by exact rfl) (hx : evF n U upd x = v := by kernel_rfl)
    (hw : Region.wanted o (yiF n U upd ops) = true := by kernel_rfl) (hd : o.dst = some d := by exact rfl) (h : Ws P ops Q S π (fr U ((d, v) :: upd) n 0) w) : Ws P ops Q S (.cons (i, false) π) (fr U upd n 0) w := W.sq hi (r_move ho (ev_any hx)) (wa_fr hw) hd rfl (F.nx h)
theorem F.as {i : Nat} {π : Sch} {w : World} {o : Oper} {x : Operand} {v : Value} {d : Tmp} (hi : ops[i]? = some o := by exact rfl) (ho : o.op = .assign x := by exact rfl) (hx : evF n U upd x = v := by kernel_rfl)
    (hw : Region.wanted o (yiF n U upd ops) = true := by kernel_rfl) (hd : o.dst = some d := by exact rfl) (h : Ws P ops Q S π (fr U ((d, v) :: upd) n 0) w) : Ws P ops Q S (.cons (i, false) π) (fr U upd n 0) w := W.sq hi (r_assign ho (ev_any hx)) (wa_fr hw) hd rfl (F.nx h)
theorem F.ld {i : Nat} {π : Sch} {w : World} {o : Oper} {x : Operand} {t : TypeId} {p : Addr} {v : Value} {d : Tmp} (hi : ops[i]? = some o := by exact rfl) (ho : o.op = .load t x := by exact rfl) (hx : evF n U upd x = .pointer (some p) := by kernel_rfl) (ht : aggB P t = some false := by kernel_rfl) (hc : ∀ w, S w → w.cell? p = some v)
    (hw : Region.wanted o (yiF n U upd ops) = true := by kernel_rfl) (hd : o.dst = some d := by exact rfl) (h : Ws P ops Q S π (fr U ((d, v) :: upd) n 0) w) : Ws P ops Q S (.cons (i, false) π) (fr U upd n 0) w := W.sq hi (r_load ho (ev_any hx) ht hc) (wa_fr hw) hd rfl (F.nx h)
theorem F.sp {i : Nat} {b : Bool} {π : Sch} {w : World} {o : Oper} {d : Tmp} (hS : S w) (hi : ops[i]? = some o := by exact rfl) (hw : Region.wanted o (yiF n U upd ops) = false := by kernel_rfl) (hd : o.dst = some d := by exact rfl) (h : Ws P ops Q S π (fr U ((d, undef) :: upd) n 0) w) : Ws P ops Q S (.cons (i, b) π) (fr U upd n 0) w := W.sk hS hi (wa_fr hw) hd rfl (F.nx h)
end

end Go.Proofs.YtdlcldaogcbnlaaDoor
