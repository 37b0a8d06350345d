/- Arrays behind a pointer: marks. No program is named here. -/
import Derived.Test.YtdlcldaogcbnlaaDoorSch5
namespace Go.Proofs.YtdlcldaogcbnlaaDoor
open Go.RowKit
set_option linter.unusedVariables false

section
variable {P : Program} {S : World → Prop} {o : Oper} {a : Act}
theorem r_nilCheck {x : Operand} {p : Addr} (ho : o.op = .nilCheck x) (hx : a.eval x = .pointer (some p)) : ∀ w, S w → (execOp a.eval o).run P w = .ok (.value (.pointer (some p))) w := fun w _ => by
  simp [execOp, ho, hx]
/-- How long an array's type is, of elements of one cell. -/
def arrSz (P : Program) (t : TypeId) : Option Nat := match P.underlying t with
  | some (.array len e) => match sizeB P e with | some 1 => some len | _ => none
  | _ => none
theorem r_idxA {t : TypeId} {x i : Operand} {b len k : Nat} (ho : o.op = .indexAddr t x i) (hx : a.eval x = .pointer (some ⟨b, 0, none⟩)) (hi : a.eval i = .int .i64 (k : Int)) (ht : arrSz P t = some len) (hk : k < len) :
    ∀ w, S w → (execOp a.eval o).run P w = .ok (.value (.pointer (some ⟨b, k, none⟩))) w := fun w _ => by
  have h0 : (0 : Int) ≤ (k : Int) ∧ (k : Int) < (len : Int) := by omega
  unfold arrSz at ht
  split at ht <;> try cases ht
  rename_i n e hu
  split at ht <;> try cases ht
  rename_i hs
  simp [execOp, ho, hx, hi, Instr.indexAt, asIntOf, underlying, hu, run_sizeOf hs, h0, Addr.add_lit, Instr.sureAddr]
  intro h; omega
theorem r_neqB {t u : TypeId} {x y : Operand} {m n : Bool} {r : Bool} (ho : o.op = .binOp .neq t x y u) (hx : a.eval x = .bool m) (hy : a.eval y = .bool n) (ht : P.underlying t = some .bool) (hr : (!(m == n)) = r) :
    ∀ w, S w → (execOp a.eval o).run P w = .ok (.value (.bool r)) w := fun w _ => by
  subst hr
  simp [execOp, ho, hx, hy, eqGuard, binOp, run_equal_bool _ t m n ht]
end

def boolsV (bs : List Bool) : List Value := bs.map Value.bool
theorem bools_len (bs : List Bool) : (boolsV bs).length = bs.length := by simp [boolsV]
theorem bools_at {bs : List Bool} {k : Nat} {u : Value} (h : (boolsV bs)[k]? = some u) : ∃ z, bs[k]? = some z ∧ u = .bool z := by
  unfold boolsV at h
  rw [List.getElem?_map] at h
  obtain ⟨z, hz, rfl⟩ := Option.map_eq_some_iff.1 h
  exact ⟨z, hz, rfl⟩
theorem own_setB {w : World} {base : Nat} {e : TypeId} {v : Value} {n j : Nat} {zs : List Bool} {z : Bool} (h : w.ownsRow base e 1 v n ((boolsV zs).set j (.bool z))) : w.ownsRow base e 1 v n (boolsV (zs.set j z)) := by
  have e1 : (boolsV zs).set j (.bool z) = boolsV (zs.set j z) := by unfold boolsV; rw [List.map_set]
  rwa [e1] at h
theorem own_atB {w : World} {base g n c : Nat} {e : TypeId} {zs : List Bool} {j : Nat} {z : Bool} (h : w.ownsRow base e 1 (.slice (some ⟨g, 0, none⟩) n c) n (boolsV zs)) (hz : zs[j]? = some z) : w.cell? ⟨g, j, none⟩ = some (.bool z) := by
  have hl := own_len h
  rw [bools_len] at hl
  have hj := (List.getElem?_eq_some_iff.1 hz).1
  rw [h.cellAt j (by omega)]
  simp [boolsV, hz]
theorem Rd.elBool {w : World} {b n : Nat} {zs : List Bool} (h : Rd w 1 (some ⟨b, 0, none⟩) n (boolsV zs)) {k : Nat} {x : Bool} (hx : zs[k]? = some x) : b < w.heap.size ∧ w.cell? ⟨b, k, none⟩ = some (.bool x) := by
  have hk : k < n := by have h1 := (List.getElem?_eq_some_iff.1 hx).1; have h2 := h.1; rw [bools_len] at h2; omega
  obtain ⟨b', off, e, hb, hc⟩ := h.2 (by omega)
  cases e
  refine ⟨hb, ?_⟩
  have := hc k (.bool x) (by simp [boolsV, hx])
  rwa [Nat.zero_add] at this
theorem rd_bools_len {w : World} {A : Option Addr} {n : Nat} {zs : List Bool} (h : Rd w 1 A n (boolsV zs)) : zs.length = n := by have := h.1; rw [bools_len] at this; omega
/-- A slice that is read stays so where another row turns. -/
theorem rd_nbr {w w' : World} {size n n' c : Nat} {A : Option Addr} {xs : List Value} {u : Value} (h : Rd w size A n xs) (hg : SG w (Value.ownBlock u) w') (hn : NbR (.slice A n' c) u) : Rd w' size A n xs :=
  rd_grown h hg (fun b off e e2 => hn b (by rw [e]; simp [Value.ownBlock]) e2.symm)

end Go.Proofs.YtdlcldaogcbnlaaDoor
