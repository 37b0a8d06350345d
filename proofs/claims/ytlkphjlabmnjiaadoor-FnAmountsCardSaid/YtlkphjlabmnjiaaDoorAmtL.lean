/- What conversions, sums and comparisons are, part by part; their laws. -/
import Derived.Test.YtlkphjlabmnjiaaDoorUnitL
namespace Go.Proofs.YtlkphjlabmnjiaaDoor
open Go.RowKit
set_option linter.unusedVariables false
set_option linter.unusedSimpArgs false

def convB (v u k : Int) : Bool := goodAmt v u && inB k 1 4
def convX (v u k : Int) : Int := if convB v u k = true then ((redN (v.toNat * fac u) (fac k) : Nat) : Int) else 0
def convY (v u k : Int) : Int := if convB v u k = true then ((redD (v.toNat * fac u) (fac k) : Nat) : Int) else 0
theorem convOf_eq (v u k : Int) : convOf v u k = .tuple #[.int .i64 (convX v u k), .int .i64 (convY v u k), .bool (convB v u k)] := by
  by_cases h : convB v u k = true
  · unfold convX convY
    rw [convOf, if_pos (show (goodAmt v u && inB k 1 4) = true from h), if_pos h, if_pos h, h]
  · unfold convX convY
    rw [convOf, if_neg (show ¬ (goodAmt v u && inB k 1 4) = true from h), if_neg h, if_neg h, Bool.eq_false_iff.2 h]
def cmpB (v u x y : Int) : Bool := goodAmt v u && goodAmt x y
def cmpX (v u x y : Int) : Int := if cmpB v u x y = true then (if v.toNat * fac u < x.toNat * fac y then 1 else if x.toNat * fac y < v.toNat * fac u then 2 else 0) else 0
theorem cmpOf_eq (v u x y : Int) : cmpOf v u x y = .tuple #[.int .i64 (cmpX v u x y), .bool (cmpB v u x y)] := by
  by_cases h : cmpB v u x y = true
  · unfold cmpX
    rw [cmpOf, if_pos (show (goodAmt v u && goodAmt x y) = true from h), if_pos h, h]
  · unfold cmpX
    rw [cmpOf, if_neg (show ¬ (goodAmt v u && goodAmt x y) = true from h), if_neg h, Bool.eq_false_iff.2 h]
def addB (v u x y k : Int) : Bool := goodAmt v u && goodAmt x y && inB k 1 4
def addX (v u x y k : Int) : Int := if addB v u x y k = true then ((redN (v.toNat * fac u + x.toNat * fac y) (fac k) : Nat) : Int) else 0
def addY (v u x y k : Int) : Int := if addB v u x y k = true then ((redD (v.toNat * fac u + x.toNat * fac y) (fac k) : Nat) : Int) else 0
theorem addOf_eq (v u x y k : Int) : addOf v u x y k = .tuple #[.int .i64 (addX v u x y k), .int .i64 (addY v u x y k), .bool (addB v u x y k)] := by
  by_cases h : addB v u x y k = true
  · unfold addX addY
    rw [addOf, if_pos (show (goodAmt v u && goodAmt x y && inB k 1 4) = true from h), if_pos h, if_pos h, h]
  · unfold addX addY
    rw [addOf, if_neg (show ¬ (goodAmt v u && goodAmt x y && inB k 1 4) = true from h), if_neg h, if_neg h, Bool.eq_false_iff.2 h]
theorem addB_comm (v u x y k : Int) : addB x y v u k = addB v u x y k := by unfold addB; rw [Bool.and_comm (goodAmt x y)]
theorem addX_comm (v u x y k : Int) : addX x y v u k = addX v u x y k := by unfold addX; rw [addB_comm v u x y k, Nat.add_comm]
theorem addY_comm (v u x y k : Int) : addY x y v u k = addY v u x y k := by unfold addY; rw [addB_comm v u x y k, Nat.add_comm]
theorem cmpB_comm (v u x y : Int) : cmpB x y v u = cmpB v u x y := by unfold cmpB; rw [Bool.and_comm]
theorem cmpX_bd (v u x y : Int) : 0 ≤ cmpX v u x y ∧ cmpX v u x y ≤ 2 := by
  unfold cmpX
  split
  · split
    · omega
    · split <;> omega
  · omega
theorem cmp_sum (v u x y : Int) : cmpX v u x y + cmpX x y v u = 0 ∨ cmpX v u x y + cmpX x y v u = 3 := by
  unfold cmpX
  rw [cmpB_comm v u x y]
  generalize v.toNat * fac u = a
  generalize x.toNat * fac y = b
  split
  · by_cases h1 : a < b
    · rw [if_pos h1, if_neg (by omega), if_pos h1]; exact .inr rfl
    · rw [if_neg h1]
      by_cases h2 : b < a
      · rw [if_pos h2, if_pos h2]; exact .inr rfl
      · rw [if_neg h2, if_neg h2, if_neg h1]; exact .inl rfl
  · exact .inl rfl
theorem conv_in {v u k : Int} (h : convB v u k = true) : goodAmt v u = true ∧ (1 ≤ k ∧ k ≤ 4) := by
  obtain ⟨h1, h2⟩ := Bool.and_eq_true_iff.1 h
  exact ⟨h1, inB_yes.1 h2⟩
/-- An amount that is whole in a unit is the same amount there. -/
theorem conv_cmp {v u k : Int} (h : convB v u k = true) (h1 : convY v u k = 1) (h2 : convX v u k ≤ 1000000) : cmpB v u (convX v u k) k = true ∧ cmpX v u (convX v u k) k = 0 := by
  obtain ⟨hg, hk⟩ := conv_in h
  have hf := fac_bd k
  obtain ⟨a1, _⟩ := red_cross (v.toNat * fac u) (fac k) (by omega)
  have hx : convX v u k = ((redN (v.toNat * fac u) (fac k) : Nat) : Int) := if_pos h
  have hy : convY v u k = ((redD (v.toNat * fac u) (fac k) : Nat) : Int) := if_pos h
  rw [hy] at h1
  have h3 : redD (v.toNat * fac u) (fac k) = 1 := by omega
  rw [h3, Nat.mul_one] at a1
  have hc : cmpB v u (convX v u k) k = true := by
    unfold cmpB
    rw [hg, amt_good ⟨⟨by rw [hx]; omega, h2⟩, hk⟩]; rfl
  refine ⟨hc, ?_⟩
  unfold cmpX
  rw [if_pos hc, hx, Int.toNat_natCast, a1, if_neg (by omega), if_neg (by omega)]
/-- An amount is recovered from its text. -/
theorem text_amt {v u : Int} (h : AmountText_v1 v u = true) : ParseAmount_v1 (AmountText_v0 v u) = true ∧ ParseAmount_vv (AmountText_v0 v u) = v ∧ ParseAmount_vu (AmountText_v0 v u) = u := by
  have hg := good_amt h
  have e := (at_yes h).2
  have h1 := par_yes (s := AmountText_v0 v u) (v := v) (k := u.toNat) ⟨hg.1, by omega, by omega⟩ e.symm
  refine ⟨h1.1, h1.2.1, ?_⟩
  rw [h1.2.2]; omega
theorem text_size (v u : Int) : (AmountText_v0 v u).size ≤ 13 := by
  unfold AmountText_v0
  split
  · rename_i h
    have hg := good_amt h
    exact textA_size ⟨hg.1, by omega, by omega⟩
  · decide

end Go.Proofs.YtlkphjlabmnjiaaDoor
