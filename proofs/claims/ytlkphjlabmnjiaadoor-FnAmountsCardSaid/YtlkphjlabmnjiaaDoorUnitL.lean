/- What volumes, bars, conversions, comparisons and sums are, part by part; their laws. -/
import Derived.Test.YtlkphjlabmnjiaaDoorUnit3
import Derived.Test.YtlkphjlabmnjiaaDoorBars
import Derived.Test.YtlkphjlabmnjiaaDoorAmtP
import Derived.Test.YtlkphjlabmnjiaaDoorAmtR
namespace Go.Proofs.YtlkphjlabmnjiaaDoor
open Go.RowKit
set_option linter.unusedVariables false
set_option linter.unusedSimpArgs false

theorem mul_bd {a b x y : Int} (ha : 0 ≤ a ∧ a ≤ x) (hb : 0 ≤ b ∧ b ≤ y) : 0 ≤ a * b ∧ a * b ≤ x * y :=
  ⟨Int.mul_nonneg ha.1 hb.1, Int.mul_le_mul ha.2 hb.2 hb.1 (Int.le_trans ha.1 ha.2)⟩
def volB (v u m : Int) : Bool := goodAmt v u && inB m 0 10000
def volX (v u m : Int) : Int := if volB v u m = true then ((redN (v.toNat * fac u * m.toNat) 36 : Nat) : Int) else 0
def volY (v u m : Int) : Int := if volB v u m = true then ((redD (v.toNat * fac u * m.toNat) 36 : Nat) : Int) else 0
theorem volOf_eq (v u m : Int) : volOf v u m = .tuple #[.int .i64 (volX v u m), .int .i64 (volY v u m), .bool (volB v u m)] := by
  by_cases h : volB v u m = true
  · unfold volX volY
    rw [volOf, if_pos (show (goodAmt v u && inB m 0 10000) = true from h), if_pos h, if_pos h, h]
  · unfold volX volY
    rw [volOf, if_neg (show ¬ (goodAmt v u && inB m 0 10000) = true from h), if_neg h, if_neg h, Bool.eq_false_iff.2 h]
theorem vol_in {v u m : Int} (h : volB v u m = true) : (0 ≤ v ∧ v ≤ 1000000) ∧ (1 ≤ u ∧ u ≤ 4) ∧ 0 ≤ m ∧ m ≤ 10000 := by
  obtain ⟨h1, h2⟩ := Bool.and_eq_true_iff.1 h
  have h3 := good_amt h1
  exact ⟨h3.1, h3.2, inB_yes.1 h2⟩
theorem volX_bd (v u m : Int) : 0 ≤ volX v u m ∧ volX v u m ≤ 21600000000000 := by
  unfold volX
  split
  · rename_i h
    obtain ⟨h1, h2, h3⟩ := vol_in h
    have hf := fac_bd u
    obtain ⟨_, _, h4, _⟩ := red_cross (v.toNat * fac u * m.toNat) 36 (by omega)
    have h5 : v.toNat * fac u ≤ 2160000000 := Nat.le_trans (Nat.mul_le_mul (show v.toNat ≤ 1000000 by omega) hf.2) (by omega)
    have h6 : v.toNat * fac u * m.toNat ≤ 21600000000000 := Nat.le_trans (Nat.mul_le_mul h5 (show m.toNat ≤ 10000 by omega)) (by omega)
    omega
  · omega
theorem volY_bd (v u m : Int) : 0 ≤ volY v u m ∧ volY v u m ≤ 36 := by
  unfold volY
  split
  · obtain ⟨_, _, _, h4⟩ := red_cross (v.toNat * fac u * m.toNat) 36 (by omega)
    omega
  · omega
theorem vol_double {v u m : Int} (h1 : volB v u m = true) (h2 : volB v u (2 * m) = true) : volX v u (2 * m) * volY v u m = 2 * volX v u m * volY v u (2 * m) := by
  have hm := (vol_in h1).2.2
  unfold volX volY
  rw [if_pos h1, if_pos h1, if_pos h2, if_pos h2]
  have e : (2 * m).toNat = 2 * m.toNat := by omega
  obtain ⟨a1, _⟩ := red_cross (v.toNat * fac u * m.toNat) 36 (by omega)
  obtain ⟨b1, _⟩ := red_cross (v.toNat * fac u * (2 * m).toNat) 36 (by omega)
  rw [e] at b1 ⊢
  have e2 : v.toNat * fac u * (2 * m.toNat) = 2 * (v.toNat * fac u * m.toNat) := by ac_rfl
  rw [e2] at b1 ⊢
  generalize v.toNat * fac u * m.toNat = K at *
  generalize redN K 36 = a at *
  generalize redD K 36 = b at *
  generalize redN (2 * K) 36 = c at *
  generalize redD (2 * K) 36 = d at *
  have h : 36 * (c * b) = 36 * (2 * a * d) := by
    calc 36 * (c * b) = (c * 36) * b := by ac_rfl
      _ = 2 * K * d * b := by rw [b1]
      _ = 2 * d * (K * b) := by ac_rfl
      _ = 2 * d * (a * 36) := by rw [a1]
      _ = 36 * (2 * a * d) := by ac_rfl
  have h3 := Nat.eq_of_mul_eq_mul_left (by omega : 0 < 36) h
  exact_mod_cast h3
def barB (m : Int) : Bool := inB m 0 1000
def barX (m : Int) : Int := if barB m = true then ((redN (5 * m.toNat) 51 : Nat) : Int) else 0
def barY (m : Int) : Int := if barB m = true then ((redD (5 * m.toNat) 51 : Nat) : Int) else 0
theorem barsOf_eq (m : Int) : barsOf m = .tuple #[.int .i64 (barX m), .int .i64 (barY m), .bool (barB m)] := by
  by_cases h : barB m = true
  · unfold barX barY
    rw [barsOf, if_pos (show inB m 0 1000 = true from h), if_pos h, if_pos h, h]; rfl
  · unfold barX barY
    rw [barsOf, if_neg (show ¬ inB m 0 1000 = true from h), if_neg h, if_neg h, Bool.eq_false_iff.2 h]
theorem barX_bd (m : Int) : 0 ≤ barX m ∧ barX m ≤ 5000 := by
  unfold barX
  split
  · rename_i h
    have h1 := inB_yes.1 h
    obtain ⟨_, _, h4, _⟩ := red_cross (5 * m.toNat) 51 (by omega)
    omega
  · omega
theorem barY_bd (m : Int) : 0 ≤ barY m ∧ barY m ≤ 51 := by
  unfold barY
  split
  · obtain ⟨_, _, _, h4⟩ := red_cross (5 * m.toNat) 51 (by omega)
    omega
  · omega
theorem bar_law {m : Int} (h : barB m = true) : 51 * barX m = 5 * m * barY m := by
  have h1 := inB_yes.1 h
  obtain ⟨k, rfl⟩ := Int.eq_ofNat_of_zero_le h1.1
  unfold barX barY
  rw [if_pos h, if_pos h]
  obtain ⟨h2, _⟩ := red_cross (5 * (k : Int).toNat) 51 (by omega)
  rw [Int.toNat_natCast] at h2 ⊢
  have h3 : 51 * redN (5 * k) 51 = 5 * k * redD (5 * k) 51 := by rw [← h2]; exact Nat.mul_comm _ _
  exact_mod_cast h3
/-! ### decimal texts have a point before their digits -/
theorem bAt_mid (x y : ByteArray) (b : UInt8) : bAt (x ++ ((⟨#[b]⟩ : ByteArray) ++ y)) x.size = b.toNat := by
  have hl : x.data.toList.length = x.size := (Lib.size_eq x).symm
  rw [bAt_list, ByteArray.data_append, Array.toList_append, List.getD_eq_getElem?_getD, List.getElem?_append_right (by omega), hl, Nat.sub_self, ByteArray.data_append, Array.toList_append]
  simp
theorem dec_point {a b c : Int} (h : DecimalText_v1 a b c = true) (hc : 0 < c) : c + 2 ≤ ((DecimalText_v0 a b c).size : Int) ∧ bAt (DecimalText_v0 a b c) ((DecimalText_v0 a b c).size - c.toNat - 1) = 46 := by
  have h0 : DecimalText_v0 a b c = itoaB ((roundN a.toNat b.toNat c.toNat / 10 ^ c.toNat : Nat) : Int) ++ ((⟨#[46]⟩ : ByteArray) ++ lowB (roundN a.toNat b.toNat c.toNat) c.toNat) := by
    unfold DecimalText_v0 decB
    rw [if_pos h, if_neg (by omega)]
  have hp := itoa_pos ((roundN a.toNat b.toNat c.toNat / 10 ^ c.toNat : Nat) : Int)
  have hs : (DecimalText_v0 a b c).size = (itoaB ((roundN a.toNat b.toNat c.toNat / 10 ^ c.toNat : Nat) : Int)).size + (1 + c.toNat) := by
    rw [h0, ByteArray.size_append, ByteArray.size_append, lowB_size, size1]
  refine ⟨by omega, ?_⟩
  rw [show (DecimalText_v0 a b c).size - c.toNat - 1 = (itoaB ((roundN a.toNat b.toNat c.toNat / 10 ^ c.toNat : Nat) : Int)).size by omega, h0, bAt_mid]; rfl
theorem dec_size {a b c : Int} : (DecimalText_v0 a b c).size ≤ 100 := by
  unfold DecimalText_v0
  split
  · rename_i h
    unfold DecimalText_v1 at h
    simp only [Bool.and_eq_true] at h
    have hc := inB_yes.1 h.2.2
    have ha := inB_yes.1 h.1
    have hb := inB_yes.1 h.2.1
    unfold decB
    have hr : roundN a.toNat b.toNat c.toNat ≤ 30000000000000000 := by
      unfold roundN
      have h4 : (10 : Nat) ^ c.toNat ≤ 10 ^ 4 := Nat.pow_le_pow_right (by omega) (by omega)
      have h5 := Nat.mul_le_mul (show 2 * a.toNat ≤ 2000000000000 by omega) h4
      exact Nat.le_trans (Nat.div_le_self _ _) (by omega)
    split
    · have := itoaB_le (n := ((roundN a.toNat b.toNat c.toNat : Nat) : Int)) (by omega) (by omega)
      omega
    · have hd := Nat.div_le_self (roundN a.toNat b.toNat c.toNat) (10 ^ c.toNat)
      generalize roundN a.toNat b.toNat c.toNat / 10 ^ c.toNat = q at *
      have := itoaB_le (n := ((q : Nat) : Int)) (by omega) (by omega)
      rw [ByteArray.size_append, ByteArray.size_append, lowB_size, size1]
      omega
  · decide

end Go.Proofs.YtlkphjlabmnjiaaDoor
