/- How the public functions end. No program is named here. -/
import Derived.Test.YtnfmdkbelbppdaaNap
import Derived.Test.YtnfmdkbelbppdaaValG
import Derived.Test.YtnfmdkbelbppdaaIsV
namespace Go.Proofs.Ytnfmdkbelbppdaa
open Go.RowKit
set_option linter.unusedVariables false

theorem nbr_nil {n c : Nat} {u : Value} : NbR (.slice none n c) u := fun j e _ => by simp [Value.ownBlock] at e
/-- Two lists of the call's own, side by side, and a bool. -/
theorem fin_ints2 {w w' : World} {e : TypeId} {A A' : Option Addr} {n c n' c' : Nat} {zs vs zs' vs' : List Int} {b vb : Bool} (how : w'.ownsRow w.heap.size e 1 (.slice A n c) n (intsV zs)) (how' : w'.ownsRow w.heap.size e 1 (.slice A' n' c') n' (intsV zs')) (hz : zs = vs) (hz' : zs' = vs') (hb : b = vb) (nr : NbR (.slice A n c) (.slice A' n' c')) (bel : Below w.heap.size w w') :
    ∃ A0 d0 A1 d1, Ending.returned (.tuple #[.slice A n c, .slice A' n' c', .bool b]) = .returned (.tuple #[.slice A0 vs.length d0, .slice A1 vs'.length d1, .bool vb]) ∧ w'.ownsRow w.heap.size e 1 (.slice A0 vs.length d0) vs.length (intsV vs) ∧ w'.ownsRow w.heap.size e 1 (.slice A1 vs'.length d1) vs'.length (intsV vs') ∧ NbR (.slice A0 vs.length d0) (.slice A1 vs'.length d1) ∧ Below w.heap.size w w' := by
  subst hz hz' hb
  have hl := own_len how
  have hl' := own_len how'
  rw [ints_len] at hl hl'
  subst hl hl'
  exact ⟨_, _, _, _, rfl, how, how', nr, bel⟩
theorem fin_rd2 {w w' : World} {A A' : Option Addr} {n c n' c' : Nat} {zs vs zs' vs' : List Int} {b vb : Bool} (how : Rd w' 1 A n (intsV zs)) (how' : Rd w' 1 A' n' (intsV zs')) (hz : zs = vs) (hz' : zs' = vs') (hb : b = vb) (bel : Below w.heap.size w w') :
    ∃ A0 d0 A1 d1, Ending.returned (.tuple #[.slice A n c, .slice A' n' c', .bool b]) = .returned (.tuple #[.slice A0 vs.length d0, .slice A1 vs'.length d1, .bool vb]) ∧ Rd w' 1 A0 vs.length (intsV vs) ∧ Rd w' 1 A1 vs'.length (intsV vs') ∧ Below w.heap.size w w' := by
  subst hz hz' hb
  have hl := rd_ints_len how
  have hl' := rd_ints_len how'
  subst hl hl'
  exact ⟨_, _, _, _, rfl, how, how', bel⟩
theorem fin_rd {w w' : World} {A : Option Addr} {n c : Nat} {zs vs : List Int} {b vb : Bool} (how : Rd w' 1 A n (intsV zs)) (hz : zs = vs) (hb : b = vb) (bel : Below w.heap.size w w') :
    ∃ A' d, Ending.returned (.tuple #[.slice A n c, .bool b]) = .returned (.tuple #[.slice A' vs.length d, .bool vb]) ∧ Rd w' 1 A' vs.length (intsV vs) ∧ Below w.heap.size w w' := by
  subst hz hb
  have hl := rd_ints_len how
  subst hl
  exact ⟨_, _, rfl, how, bel⟩

theorem wet_eqI {E : Int → Int → Prop} {a b : Int} {k : Nat} {x : Bool} (hx : (wetL E a)[k]? = some x) (e : b = (k : Int)) : x = rb E a b := by rw [e]; exact wet_eq hx

end Go.Proofs.Ytnfmdkbelbppdaa
