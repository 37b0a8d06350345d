/- Amounts' texts and decimal texts, plainly. No program is named here. -/
import Derived.Test.YtlkphjlabmnjiaaDoorSplP
import Derived.Test.YtlkphjlabmnjiaaDoorIn
namespace Go.Proofs.YtlkphjlabmnjiaaDoor
open Go.RowKit
set_option linter.unusedVariables false
set_option linter.unusedSimpArgs false

/-- A unit's name. -/
def unitB : Nat → ByteArray
  | 1 => ⟨#[108, 47, 109, 105, 110]⟩
  | 2 => ⟨#[108, 47, 115]⟩
  | 3 => ⟨#[109, 51, 47, 104]⟩
  | 4 => ⟨#[109, 51, 47, 100]⟩
  | _ => ⟨#[]⟩
def unitsL : List ByteArray := [⟨#[]⟩, ⟨#[108, 47, 109, 105, 110]⟩, ⟨#[108, 47, 115]⟩, ⟨#[109, 51, 47, 104]⟩, ⟨#[109, 51, 47, 100]⟩]
theorem unitsL_at {k : Nat} (h : k < 5) : unitsL[k]? = some (unitB k) := by
  match k, h with
  | 0, _ | 1, _ | 2, _ | 3, _ | 4, _ => rfl
theorem unitB_inj {j k : Nat} (h1 : 1 ≤ j ∧ j ≤ 4) (h2 : 1 ≤ k ∧ k ≤ 4) (e : unitB j = unitB k) : j = k := by
  obtain ⟨a, b⟩ := h1
  obtain ⟨c, d⟩ := h2
  have e2 := congrArg (fun s : ByteArray => s.data.toList) e
  match j, a, b, k, c, d with
  | 1, _, _, 1, _, _ | 2, _, _, 2, _, _ | 3, _, _, 3, _, _ | 4, _, _, 4, _, _ => rfl
  | 1, _, _, 2, _, _ | 1, _, _, 3, _, _ | 1, _, _, 4, _, _ | 2, _, _, 1, _, _ | 2, _, _, 3, _, _ | 2, _, _, 4, _, _ | 3, _, _, 1, _, _ | 3, _, _, 2, _, _ | 3, _, _, 4, _, _ | 4, _, _, 1, _, _ | 4, _, _, 2, _, _ | 4, _, _, 3, _, _ => exact absurd e2 (by decide)
theorem unitB_le (k : Nat) : (unitB k).size ≤ 5 := by
  unfold unitB; split <;> decide
theorem unitB_stands {k : Nat} : standsB (unitB k) 32 = false := by
  apply not_stands (by omega)
  unfold unitB
  split <;> decide
def textA (v : Int) (k : Nat) : ByteArray := itoaB v ++ (⟨#[32]⟩ : ByteArray) ++ unitB k
def goodK (v : Int) (k : Nat) : Prop := (0 ≤ v ∧ v ≤ 1000000) ∧ 1 ≤ k ∧ k ≤ 4
instance (v : Int) (k : Nat) : Decidable (goodK v k) := inferInstanceAs (Decidable ((_ ∧ _) ∧ _ ∧ _))
theorem itoaB_7 {v : Int} (h : 0 ≤ v ∧ v ≤ 1000000) : (itoaB v).size ≤ 7 := by
  obtain ⟨k, rfl⟩ := Int.eq_ofNat_of_zero_le h.1
  by_cases h6 : k ≤ 999999
  · have := digits_len6 h6
    rw [itoaB_size, Lib.itoa_nonneg]; omega
  · obtain rfl : k = 1000000 := by omega
    rw [itoaB_step (by omega), ByteArray.size_append]
    have := digits_len6 (u := 1000000 / 10) (by omega)
    rw [itoaB_size, Lib.itoa_nonneg]
    have : (⟨#[UInt8.ofNat (48 + 1000000 % 10)]⟩ : ByteArray).size = 1 := rfl
    omega
theorem textA_size {v : Int} {k : Nat} (h : goodK v k) : (textA v k).size ≤ 13 := by
  have h1 := itoaB_7 h.1
  have h2 := unitB_le k
  unfold textA
  rw [ByteArray.size_append, ByteArray.size_append, size1]; omega
theorem textA_head (v : Int) (k : Nat) : headB (textA v k) 32 = itoaB v := head_app (c := 32) (by omega) (itoa_stands v (by omega) (by omega))
theorem textA_tail (v : Int) (k : Nat) : tailB (textA v k) 32 = unitB k := tail_app (c := 32) (by omega) (itoa_stands v (by omega) (by omega))
theorem textA_stands (v : Int) (k : Nat) : standsB (textA v k) 32 = true := stands_app (c := 32) (by omega)
theorem textA_split (v : Int) (k : Nat) : splitL (textA v k) 32 = [itoaB v, unitB k] := by
  unfold textA
  rw [show (⟨#[32]⟩ : ByteArray) = ⟨#[UInt8.ofNat 32]⟩ from rfl, splitL_app (c := 32) (by omega) (itoa_stands v (by omega) (by omega)), splitL_one (by omega) unitB_stands]
theorem textA_inj {v w : Int} {j k : Nat} (hj : 1 ≤ j ∧ j ≤ 4) (hk : 1 ≤ k ∧ k ≤ 4) (e : textA v j = textA w k) : v = w ∧ j = k := by
  have h1 := congrArg (fun s => headB s 32) e
  have h2 := congrArg (fun s => tailB s 32) e
  simp only [textA_head, textA_tail] at h1 h2
  exact ⟨itoaB_inj h1, unitB_inj hj hk h2⟩
/-- The amount that a text is. -/
def amtOf (s : ByteArray) : Option (Int × Nat) := match Lib.atoi (headB s 32).data.toList with
  | some v => if goodK v 1 ∧ textA v 1 = s then some (v, 1) else if goodK v 2 ∧ textA v 2 = s then some (v, 2) else if goodK v 3 ∧ textA v 3 = s then some (v, 3) else if goodK v 4 ∧ textA v 4 = s then some (v, 4) else none
  | none => none
theorem amt_some {s : ByteArray} {v : Int} {k : Nat} (h : goodK v k) (e : textA v k = s) : amtOf s = some (v, k) := by
  have h1 : Lib.atoi (headB s 32).data.toList = some v := by rw [← e, textA_head, itoaB_list, atoi_itoa]
  have hne : ∀ j, 1 ≤ j → j ≤ 4 → j ≠ k → ¬ (goodK v j ∧ textA v j = s) := fun j a b hjk h2 => hjk (textA_inj ⟨a, b⟩ h.2 (h2.2.trans e.symm)).2
  have hk := h.2
  unfold amtOf
  rw [h1]
  dsimp only
  have hyes : goodK v k ∧ textA v k = s := ⟨h, e⟩
  rcases (show k = 1 ∨ k = 2 ∨ k = 3 ∨ k = 4 by omega) with rfl | rfl | rfl | rfl
  · exact if_pos hyes
  · rw [if_neg (hne 1 (by omega) (by omega) (by omega))]; exact if_pos hyes
  · rw [if_neg (hne 1 (by omega) (by omega) (by omega)), if_neg (hne 2 (by omega) (by omega) (by omega))]; exact if_pos hyes
  · rw [if_neg (hne 1 (by omega) (by omega) (by omega)), if_neg (hne 2 (by omega) (by omega) (by omega)), if_neg (hne 3 (by omega) (by omega) (by omega))]; exact if_pos hyes
theorem amt_none {s : ByteArray} (h : ∀ v k, goodK v k → textA v k ≠ s) : amtOf s = none := by
  unfold amtOf
  split
  · rename_i v _
    rw [if_neg (fun e => h v 1 e.1 e.2), if_neg (fun e => h v 2 e.1 e.2), if_neg (fun e => h v 3 e.1 e.2), if_neg (fun e => h v 4 e.1 e.2)]
  · rfl
def ParseAmount_v1 (s : ByteArray) : Bool := (amtOf s).isSome
def ParseAmount_vv (s : ByteArray) : Int := ((amtOf s).getD (0, 0)).1
def ParseAmount_vu (s : ByteArray) : Int := (((amtOf s).getD (0, 0)).2 : Nat)
theorem par_yes {s : ByteArray} {v : Int} {k : Nat} (h : goodK v k) (e : textA v k = s) : ParseAmount_v1 s = true ∧ ParseAmount_vv s = v ∧ ParseAmount_vu s = (k : Int) := by
  unfold ParseAmount_v1 ParseAmount_vv ParseAmount_vu
  rw [amt_some h e]; exact ⟨rfl, rfl, rfl⟩
theorem par_no {s : ByteArray} (h : ∀ v k, goodK v k → textA v k ≠ s) : ParseAmount_v1 s = false ∧ ParseAmount_vv s = 0 ∧ ParseAmount_vu s = 0 := by
  unfold ParseAmount_v1 ParseAmount_vv ParseAmount_vu
  rw [amt_none h]; exact ⟨rfl, rfl, rfl⟩

/-! ### decimal texts -/
def dgt (n : Nat) : ByteArray := ⟨#[UInt8.ofNat (48 + n % 10)]⟩
theorem dgt_size (n : Nat) : (dgt n).size = 1 := rfl
/-- The last digits of a number. -/
def lowB (n : Nat) : Nat → ByteArray
  | 0 => ⟨#[]⟩
  | k + 1 => lowB (n / 10) k ++ dgt n
theorem app_empty (x : ByteArray) : x ++ (⟨#[]⟩ : ByteArray) = x := by
  apply bytes_ext; rw [ByteArray.data_append]; simp
theorem lowB_size : ∀ (k n : Nat), (lowB n k).size = k
  | 0, _ => rfl
  | k + 1, n => by unfold lowB; rw [ByteArray.size_append, lowB_size k, dgt_size]
theorem div_pow (n k : Nat) : n / 10 / 10 ^ k = n / 10 ^ (k + 1) := by rw [Nat.div_div_eq_div_mul, Nat.pow_succ, Nat.mul_comm]
theorem lowB_front : ∀ (k n : Nat), lowB n (k + 1) = dgt (n / 10 ^ k) ++ lowB n k
  | 0, n => by
    show (⟨#[]⟩ : ByteArray) ++ dgt n = dgt (n / 10 ^ 0) ++ (⟨#[]⟩ : ByteArray)
    rw [empty_app, app_empty, Nat.pow_zero, Nat.div_one]
  | k + 1, n => by
    show lowB (n / 10) (k + 1) ++ dgt n = _
    rw [lowB_front k, div_pow, ByteArray.append_assoc]; rfl
theorem lowB_add (a : Nat) : ∀ (b n : Nat), lowB n (a + b) = lowB (n / 10 ^ b) a ++ lowB n b
  | 0, n => by
    show lowB n a = lowB (n / 10 ^ 0) a ++ (⟨#[]⟩ : ByteArray)
    rw [app_empty, Nat.pow_zero, Nat.div_one]
  | b + 1, n => by
    show lowB (n / 10) (a + b) ++ dgt n = lowB (n / 10 ^ (b + 1)) a ++ (lowB (n / 10) b ++ dgt n)
    rw [lowB_add a b, div_pow, ByteArray.append_assoc]
theorem lowB_mod : ∀ (k m n : Nat), m % 10 ^ k = n % 10 ^ k → lowB m k = lowB n k
  | 0, _, _, _ => rfl
  | k + 1, m, n, h => by
    have e10 : ∀ x : Nat, x % 10 ^ (k + 1) = x % 10 + 10 * (x / 10 % 10 ^ k) := fun x => by rw [Nat.pow_succ, Nat.mul_comm, Nat.mod_mul]
    rw [e10, e10] at h
    have h1 : m % 10 = n % 10 := by omega
    have h2 : m / 10 % 10 ^ k = n / 10 % 10 ^ k := by omega
    unfold lowB dgt
    rw [lowB_mod k _ _ h2, h1]
theorem low_itoa : ∀ (j n : Nat), 1 ≤ j → n / 10 ^ j = 0 → (j = 1 ∨ 0 < n / 10 ^ (j - 1)) → lowB n j = itoaB ((n : Nat) : Int)
  | 0, _, h, _, _ => by omega
  | 1, n, _, h, _ => by
    have h9 : n < 10 := by
      rcases Nat.lt_or_ge n 10 with h1 | h1
      · exact h1
      · have := Nat.div_pos h1 (by omega : 0 < 10); rw [Nat.pow_one] at h; omega
    show (⟨#[]⟩ : ByteArray) ++ dgt n = _
    rw [empty_app, itoaB_small h9]
    unfold dgt; rw [Nat.mod_eq_of_lt h9]
  | j + 2, n, _, h, h2 => by
    have h3 : 0 < n / 10 ^ (j + 1) := by
      rcases h2 with h2 | h2
      · omega
      · exact h2
    have h4 : 0 < n / 10 / 10 ^ j := by rw [div_pow]; exact h3
    have h5 : ¬ n < 10 := fun h6 => by rw [Nat.div_eq_of_lt h6, Nat.zero_div] at h4; omega
    show lowB (n / 10) (j + 1) ++ dgt n = _
    rw [low_itoa (j + 1) (n / 10) (by omega) (by rw [div_pow]; exact h) (.inr (by rw [Nat.add_sub_cancel]; exact h4)), itoaB_step h5]; rfl
theorem itoa_low : ∀ (p m : Nat), 10 ^ p ≤ m → itoaB ((m : Nat) : Int) = itoaB ((m / 10 ^ p : Nat) : Int) ++ lowB m p
  | 0, m, _ => by
    show _ = itoaB ((m / 10 ^ 0 : Nat) : Int) ++ (⟨#[]⟩ : ByteArray)
    rw [app_empty, Nat.pow_zero, Nat.div_one]
  | p + 1, m, h => by
    have hp : 1 ≤ 10 ^ p := Nat.pow_pos (by omega)
    rw [Nat.pow_succ] at h
    have h5 : ¬ m < 10 := by omega
    rw [itoaB_step h5, itoa_low p (m / 10) (by omega), div_pow, ByteArray.append_assoc]; rfl
theorem tail_low (n p : Nat) : (itoaB ((10 ^ p + n % 10 ^ p : Nat) : Int)).extract 1 (itoaB ((10 ^ p + n % 10 ^ p : Nat) : Int)).size = lowB n p := by
  have hp : 0 < 10 ^ p := Nat.pow_pos (by omega)
  have hm := Nat.mod_lt n hp
  have h1 : (10 ^ p + n % 10 ^ p) / 10 ^ p = 1 := by rw [Nat.add_div_left _ hp, Nat.div_eq_of_lt hm]
  have h2 := itoa_low p (10 ^ p + n % 10 ^ p) (by omega)
  rw [h1] at h2
  have h3 : lowB (10 ^ p + n % 10 ^ p) p = lowB n p := lowB_mod p _ _ (by rw [Nat.add_mod_left, Nat.mod_mod])
  rw [h3] at h2
  have h4 : itoaB ((1 : Nat) : Int) = ⟨#[49]⟩ := itoaB_small (k := 1) (by omega)
  rw [h4] at h2
  rw [h2]
  apply bytes_ext
  rw [Lib.extract_data, ByteArray.data_append]
  simp
  rw [List.take_of_length_le (by have := size1 49; simp; omega)]
/-- A decimal text. -/
def decB (n p : Nat) : ByteArray := if p = 0 then itoaB ((n : Nat) : Int) else itoaB ((n / 10 ^ p : Nat) : Int) ++ ((⟨#[46]⟩ : ByteArray) ++ lowB n p)
/-- The reference's road to it: digits enough, then parted. -/
theorem dec_zero {n j : Nat} (h0 : 1 ≤ j) (h1 : n / 10 ^ j = 0) (h2 : j = 1 ∨ 0 < n / 10 ^ (j - 1)) : lowB n j = decB n 0 := by
  rw [low_itoa j n h0 h1 h2]; rfl
theorem dec_parts {n p j : Nat} (hp : 0 < p) (h0 : p + 1 ≤ j) (h1 : n / 10 ^ j = 0) (h2 : j = p + 1 ∨ 0 < n / 10 ^ (j - 1)) :
    (lowB n j).extract 0 (j - p) ++ (⟨#[46]⟩ : ByteArray) ++ (lowB n j).extract (j - p) (lowB n j).size = decB n p := by
  have e : lowB n j = lowB (n / 10 ^ p) (j - p) ++ lowB n p := by
    have := lowB_add (j - p) p n
    rwa [show j - p + p = j by omega] at this
  have hs := lowB_size (j - p) (n / 10 ^ p)
  have ea : (lowB n j).extract 0 (j - p) = lowB (n / 10 ^ p) (j - p) := by
    apply bytes_ext
    have hl : (lowB (n / 10 ^ p) (j - p)).data.toList.length = j - p := by rw [← Lib.size_eq]; exact hs
    rw [e, Lib.extract_data, ByteArray.data_append, Array.toList_append, List.drop_zero, Nat.sub_zero]
    rw [List.take_append_of_le_length (by omega), List.take_of_length_le (by omega)]
  have eb : (lowB n j).extract (j - p) (lowB n j).size = lowB n p := by
    apply bytes_ext
    have hl : (lowB (n / 10 ^ p) (j - p)).data.toList.length = j - p := by rw [← Lib.size_eq]; exact hs
    rw [Lib.extract_data, Lib.size_eq, e, ByteArray.data_append, Array.toList_append]
    rw [List.drop_left' hl, List.take_of_length_le (by simp; omega)]
  have hd : ∀ q, n / 10 ^ p / 10 ^ q = n / 10 ^ (p + q) := fun q => by rw [Nat.div_div_eq_div_mul, Nat.pow_add]
  rw [ea, eb, low_itoa (j - p) (n / 10 ^ p) (by omega) (by rw [hd, show p + (j - p) = j by omega]; exact h1) (by
    rcases h2 with h2 | h2
    · exact .inl (by omega)
    · refine .inr ?_
      rw [hd, show p + (j - p - 1) = j - 1 by omega]; exact h2)]
  unfold decB
  rw [if_neg (by omega), ByteArray.append_assoc]
def DecimalText_v1 (a b c : Int) : Bool := inB a 0 1000000000000 && (inB b 1 1000000 && inB c 0 4)
def roundN (num den p : Nat) : Nat := (2 * num * 10 ^ p + den) / (2 * den)
def DecimalText_v0 (a b c : Int) : ByteArray := if DecimalText_v1 a b c = true then decB (roundN a.toNat b.toNat c.toNat) c.toNat else ⟨#[]⟩

end Go.Proofs.YtlkphjlabmnjiaaDoor
