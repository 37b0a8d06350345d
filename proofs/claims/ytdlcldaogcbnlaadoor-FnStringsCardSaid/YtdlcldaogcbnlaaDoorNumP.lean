/- Numbers and their texts, plainly. No program is named here. -/
import Derived.Test.YtdlcldaogcbnlaaDoorTxt
import Derived.Lib.ItoaLen
import Derived.Lib.AppendIntMem
import Derived.Lib.Atoi
namespace Go.Proofs.YtdlcldaogcbnlaaDoor
open Go.RowKit
set_option linter.unusedVariables false

def itoaB (n : Int) : ByteArray := ⟨(Lib.itoa n).toArray⟩
theorem bytes_ext {a b : ByteArray} (h : a.data.toList = b.data.toList) : a = b := ByteArray.ext (Array.toList_inj.1 h)
theorem itoaB_list (n : Int) : (itoaB n).data.toList = Lib.itoa n := by simp [itoaB]
theorem itoaB_size (n : Int) : (itoaB n).size = (Lib.itoa n).length := by rw [Lib.size_eq, itoaB_list]
theorem itoaB_le {n : Int} (h0 : -9223372036854775808 ≤ n) (h1 : n ≤ 9223372036854775807) : (itoaB n).size ≤ 21 := by rw [itoaB_size]; exact Lib.itoa_length_le n h0 h1
def digits : ByteArray := ⟨#[48, 49, 50, 51, 52, 53, 54, 55, 56, 57]⟩
theorem dig_cut {k : Nat} (h : k < 10) : (⟨#[48, 49, 50, 51, 52, 53, 54, 55, 56, 57]⟩ : ByteArray).extract k (k + 1) = ⟨#[UInt8.ofNat (48 + k)]⟩ := by
  apply bytes_ext
  match k, h with
  | 0, _ | 1, _ | 2, _ | 3, _ | 4, _ | 5, _ | 6, _ | 7, _ | 8, _ | 9, _ => rfl
theorem itoaB_small {k : Nat} (h : k < 10) : itoaB ((k : Nat) : Int) = ⟨#[UInt8.ofNat (48 + k)]⟩ := by
  apply bytes_ext
  rw [itoaB_list, Lib.itoa_nonneg, Lib.decDigits, dif_pos h]
theorem itoaB_step {k : Nat} (h : ¬ k < 10) : itoaB ((k : Nat) : Int) = itoaB ((k / 10 : Nat) : Int) ++ ⟨#[UInt8.ofNat (48 + k % 10)]⟩ := by
  apply bytes_ext
  rw [ByteArray.data_append, Array.toList_append, itoaB_list, itoaB_list, Lib.itoa_nonneg, Lib.itoa_nonneg, Lib.decDigits, dif_neg h]
theorem itoaB_neg {k : Nat} (h : 1 ≤ k) : itoaB (-((k : Nat) : Int)) = (⟨#[45]⟩ : ByteArray) ++ itoaB ((k : Nat) : Int) := by
  apply bytes_ext
  rw [ByteArray.data_append, Array.toList_append, itoaB_list, itoaB_list, Lib.itoa_nonneg, Lib.itoa_neg k h]; rfl

/-! ### a number read again -/
theorem digitVal_of {d : Nat} (h : d < 10) : Lib.digitVal (UInt8.ofNat (48 + d)) = some d := by
  unfold Lib.digitVal
  have : (UInt8.ofNat (48 + d)).toNat = 48 + d := by simp; omega
  rw [this, if_pos (by omega)]; congr 1; omega
theorem decFrom_app (l : List UInt8) (b : UInt8) : ∀ acc, Lib.decFrom acc (l ++ [b]) = (Lib.decFrom acc l).bind (fun n => (Lib.digitVal b).map (fun d => n * 10 + d)) := by
  induction l with
  | nil => intro acc; simp only [List.nil_append, Lib.decFrom]; cases Lib.digitVal b <;> rfl
  | cons a t ih =>
    intro acc
    simp only [List.cons_append, Lib.decFrom]
    cases Lib.digitVal a with
    | none => rfl
    | some d => exact ih _
theorem decFrom_digits : ∀ u : Nat, Lib.decFrom 0 (Lib.decDigits u) = some u := by
  intro u
  induction u using Nat.strongRecOn with
  | ind u ih =>
    rw [Lib.decDigits]
    split
    · rename_i h
      show Lib.decFrom 0 [UInt8.ofNat (48 + u)] = some u
      unfold Lib.decFrom
      rw [digitVal_of h]
      simp [Lib.decFrom]
    · rename_i h
      rw [decFrom_app, ih (u / 10) (by omega), digitVal_of (by omega)]
      simp; omega
theorem digits_in : ∀ (u : Nat) (b : UInt8), b ∈ Lib.decDigits u → 48 ≤ b.toNat ∧ b.toNat ≤ 57 := by
  intro u
  induction u using Nat.strongRecOn with
  | ind u ih =>
    intro b hb
    have hd : ∀ d : Nat, d < 10 → 48 ≤ (UInt8.ofNat (48 + d)).toNat ∧ (UInt8.ofNat (48 + d)).toNat ≤ 57 := fun d h => by simp; omega
    rw [Lib.decDigits] at hb
    split at hb
    · rename_i h
      obtain rfl : b = UInt8.ofNat (48 + u) := by simpa using hb
      exact hd u h
    · rename_i h
      rcases List.mem_append.1 hb with h1 | h1
      · exact ih (u / 10) (by omega) b h1
      · obtain rfl : b = UInt8.ofNat (48 + u % 10) := by simpa using h1
        exact hd _ (by omega)
theorem digits_len_pos (u : Nat) : 0 < (Lib.decDigits u).length := by rw [Lib.decDigits_length]; exact Lib.nDigits_pos u
theorem digits_len6 {u : Nat} (h : u ≤ 999999) : (Lib.decDigits u).length ≤ 6 := by
  rw [Lib.decDigits_length]
  rcases Nat.lt_or_ge u 10 with h1 | h1
  · rw [Lib.nDigits_small h1]; omega
  rw [Lib.nDigits_big (by omega)]
  rcases Nat.lt_or_ge (u / 10) 10 with h2 | h2
  · rw [Lib.nDigits_small h2]; omega
  rw [Lib.nDigits_big (by omega)]
  rcases Nat.lt_or_ge (u / 10 / 10) 10 with h3 | h3
  · rw [Lib.nDigits_small h3]; omega
  rw [Lib.nDigits_big (by omega)]
  rcases Nat.lt_or_ge (u / 10 / 10 / 10) 10 with h4 | h4
  · rw [Lib.nDigits_small h4]; omega
  rw [Lib.nDigits_big (by omega)]
  rcases Nat.lt_or_ge (u / 10 / 10 / 10 / 10) 10 with h5 | h5
  · rw [Lib.nDigits_small h5]; omega
  rw [Lib.nDigits_big (by omega), Lib.nDigits_small (by omega)]; omega
theorem decNat_digits (u : Nat) : Lib.decNat (Lib.decDigits u) = some u := by
  unfold Lib.decNat
  have := digits_len_pos u
  cases h : Lib.decDigits u with
  | nil => rw [h] at this; simp at this
  | cons b r => rw [← h]; rw [if_neg (by rw [h]; simp)]; exact decFrom_digits u
theorem atoi_itoa (n : Int) : Lib.atoi (Lib.itoa n) = some n := by
  by_cases h : n < 0
  · obtain ⟨k, hk⟩ : ∃ k : Nat, n = -(k : Int) := ⟨n.natAbs, by omega⟩
    subst hk
    rw [Lib.itoa_neg k (by omega)]
    simp [Lib.atoi, decNat_digits]
  · obtain ⟨k, rfl⟩ := Int.eq_ofNat_of_zero_le (show 0 ≤ n by omega)
    rw [Lib.itoa_nonneg]
    have h1 := decNat_digits k
    cases hd : Lib.decDigits k with
    | nil => have := digits_len_pos k; rw [hd] at this; simp at this
    | cons b r =>
      have hb := digits_in k b (by rw [hd]; exact List.mem_cons_self ..)
      rw [hd] at h1
      have e1 : (b == 45) = false := beq_eq_false_iff_ne.2 (fun e => by subst e; simp at hb)
      have e2 : (b == 43) = false := beq_eq_false_iff_ne.2 (fun e => by subst e; simp at hb)
      simp [Lib.atoi, e1, e2, h1]
theorem itoaB_inj {m n : Int} (h : itoaB m = itoaB n) : m = n := by
  have h1 := congrArg (fun s => Lib.atoi s.data.toList) h
  simp only [itoaB_list, atoi_itoa] at h1
  exact Option.some.inj h1
/-- Is this the text of a number of at most six digits? -/
def isNum (s : ByteArray) : Prop := ∃ m : Int, (-999999 ≤ m ∧ m ≤ 999999) ∧ itoaB m = s
def num7 (s : ByteArray) : Option Int := match Lib.atoi s.data.toList with
  | some m => if -999999 ≤ m ∧ m ≤ 999999 ∧ itoaB m = s then some m else none
  | none => none
def ParseInt_v1 (s : ByteArray) : Bool := (num7 s).isSome
def ParseInt_v0 (s : ByteArray) : Int := (num7 s).getD 0
theorem num7_yes {s : ByteArray} {m : Int} (h : -999999 ≤ m ∧ m ≤ 999999) (e : itoaB m = s) : num7 s = some m := by
  have h1 : Lib.atoi s.data.toList = some m := by rw [← e, itoaB_list, atoi_itoa]
  unfold num7
  rw [h1]
  exact if_pos ⟨h.1, h.2, e⟩
theorem num_yes {s : ByteArray} {m : Int} (h : -999999 ≤ m ∧ m ≤ 999999) (e : itoaB m = s) : ParseInt_v1 s = true ∧ ParseInt_v0 s = m := by
  unfold ParseInt_v1 ParseInt_v0
  rw [num7_yes h e]; exact ⟨rfl, rfl⟩
theorem num_no {s : ByteArray} (h : ¬ isNum s) : ParseInt_v1 s = false ∧ ParseInt_v0 s = 0 := by
  have : num7 s = none := by
    unfold num7
    split
    · rename_i m _
      exact if_neg (fun hm => h ⟨m, ⟨hm.1, hm.2.1⟩, hm.2.2⟩)
    · rfl
  unfold ParseInt_v1 ParseInt_v0
  rw [this]; exact ⟨rfl, rfl⟩
theorem num_is {s : ByteArray} (h : ParseInt_v1 s = true) : isNum s := Classical.byContradiction fun hn => by rw [(num_no hn).1] at h; cases h
theorem num_bd (s : ByteArray) : -999999 ≤ ParseInt_v0 s ∧ ParseInt_v0 s ≤ 999999 := by
  by_cases h : isNum s
  · obtain ⟨m, h1, h2⟩ := h
    rw [(num_yes h1 h2).2]; exact h1
  · rw [(num_no h).2]; omega
theorem num_of {s : ByteArray} (h : ParseInt_v1 s = true) : itoaB (ParseInt_v0 s) = s := by
  obtain ⟨m, h1, h2⟩ := num_is h
  rw [(num_yes h1 h2).2]; exact h2
/-- A text without its sign. -/
def stripB (s : ByteArray) : ByteArray := if 1 < s.size ∧ bAt s 0 = 45 then s.extract 1 s.size else s
theorem bAt_list (s : ByteArray) (k : Nat) : bAt s k = (s.data.toList.getD k 0).toNat := rfl
theorem num_strip {s : ByteArray} (h : isNum s) : ∃ u : Nat, u ≤ 999999 ∧ (stripB s).data.toList = Lib.decDigits u ∧ ((stripB s).size < s.size → s = itoaB (-(u : Int))) ∧ (¬ (stripB s).size < s.size → s = itoaB (u : Int)) ∧ s.size ≤ 7 := by
  obtain ⟨m, hm, rfl⟩ := h
  by_cases h0 : m < 0
  · obtain ⟨k, hk⟩ : ∃ k : Nat, m = -(k : Int) := ⟨m.natAbs, by omega⟩
    subst hk
    have hl : (itoaB (-(k : Int))).data.toList = 45 :: Lib.decDigits k := by rw [itoaB_list, Lib.itoa_neg k (by omega)]
    have hs : (itoaB (-(k : Int))).size = (Lib.decDigits k).length + 1 := by rw [Lib.size_eq, hl, List.length_cons]
    have hp := digits_len_pos k
    have hp6 := digits_len6 (u := k) (by omega)
    have hst : (stripB (itoaB (-(k : Int)))).data.toList = Lib.decDigits k := by
      unfold stripB
      rw [if_pos ⟨by omega, by rw [bAt_list, hl]; rfl⟩, Lib.extract_data, hl]
      simp [List.take_of_length_le, hs]
    refine ⟨k, by omega, hst, fun _ => rfl, fun h => ?_, by omega⟩
    exfalso; apply h
    rw [Lib.size_eq, hst, hs]; omega
  · obtain ⟨k, rfl⟩ := Int.eq_ofNat_of_zero_le (show 0 ≤ m by omega)
    have hl : (itoaB ((k : Nat) : Int)).data.toList = Lib.decDigits k := by rw [itoaB_list, Lib.itoa_nonneg]
    have hp6 := digits_len6 (u := k) (by omega)
    have hs : (itoaB ((k : Nat) : Int)).size = (Lib.decDigits k).length := by rw [Lib.size_eq, hl]
    have hst : stripB (itoaB ((k : Nat) : Int)) = itoaB ((k : Nat) : Int) := by
      unfold stripB
      rw [if_neg]
      intro ⟨h1, h2⟩
      rw [bAt_list, hl] at h2
      cases hd : Lib.decDigits k with
      | nil => rw [hd] at h2; simp at h2
      | cons b r =>
        have hb := digits_in k b (by rw [hd]; exact List.mem_cons_self ..)
        rw [hd] at h2; simp at h2; omega
    exact ⟨k, by omega, by rw [hst, hl], fun h => by rw [hst] at h; omega, fun _ => rfl, by omega⟩
/-- What the first digits of a number read as. -/
def valTo (t : ByteArray) (i : Nat) : Nat := (Lib.decFrom 0 (t.data.toList.take i)).getD 0
theorem dec_pre {l : List UInt8} {u : Nat} (h : Lib.decFrom 0 l = some u) (i : Nat) : ∃ n, Lib.decFrom 0 (l.take i) = some n := by
  have gen : ∀ (l r : List UInt8) (acc : Nat), Lib.decFrom acc (l ++ r) ≠ none → ∃ n, Lib.decFrom acc l = some n := by
    intro l r
    induction l with
    | nil => intro acc _; exact ⟨acc, rfl⟩
    | cons a t ih =>
      intro acc hne
      simp only [List.cons_append, Lib.decFrom] at hne ⊢
      cases hd : Lib.digitVal a with
      | none => rw [hd] at hne; exact absurd rfl hne
      | some d => rw [hd] at hne; exact ih _ hne
  exact gen (l.take i) (l.drop i) 0 (by rw [List.take_append_drop, h]; simp)
theorem bAt_at {t : ByteArray} {i : Nat} (h : i < t.size) : ∃ b, t.data.toList[i]? = some b ∧ bAt t i = b.toNat := by
  have h1 : i < t.data.toList.length := by simpa using h
  exact ⟨_, List.getElem?_eq_getElem h1, by rw [bAt_list, List.getD_eq_getElem?_getD, List.getElem?_eq_getElem h1]; rfl⟩
/-- One digit more. -/
theorem dec_step {t : ByteArray} {i n : Nat} (h : Lib.decFrom 0 (t.data.toList.take i) = some n) (hi : i < t.size) (h1 : 48 ≤ bAt t i) (h2 : bAt t i ≤ 57) : Lib.decFrom 0 (t.data.toList.take (i + 1)) = some (10 * n + (bAt t i - 48)) := by
  obtain ⟨b, hb, e⟩ := bAt_at hi
  rw [List.take_add_one, hb]
  show Lib.decFrom 0 (_ ++ [b]) = _
  rw [decFrom_app, h]
  simp only [Option.bind_some, Lib.digitVal, ← e]
  rw [if_pos ⟨h1, h2⟩]; simp; omega
theorem num_digit {s : ByteArray} {i : Nat} (h : isNum s) (hi : i < (stripB s).size) : 48 ≤ bAt (stripB s) i ∧ bAt (stripB s) i ≤ 57 := by
  obtain ⟨u, _, h2, _⟩ := num_strip h
  obtain ⟨b, hb, e⟩ := bAt_at hi
  rw [e]
  exact digits_in u b (by rw [← h2]; exact List.mem_of_getElem? hb)
theorem num_value {s : ByteArray} {n : Nat} (h : isNum s) (hn : Lib.decFrom 0 (stripB s).data.toList = some n) : n ≤ 999999 ∧ ((stripB s).size < s.size → s = itoaB (-(n : Int))) ∧ (¬ (stripB s).size < s.size → s = itoaB (n : Int)) := by
  obtain ⟨u, h1, h2, h3, h4, _⟩ := num_strip h
  rw [h2, decFrom_digits] at hn
  obtain rfl := Option.some.inj hn
  exact ⟨h1, h3, h4⟩
theorem num_strip_len {s : ByteArray} (h : isNum s) : 1 ≤ (stripB s).size ∧ (stripB s).size ≤ 6 := by
  obtain ⟨u, h1, h2, _⟩ := num_strip h
  rw [Lib.size_eq, h2]
  exact ⟨digits_len_pos u, digits_len6 h1⟩
theorem num_len {s : ByteArray} (h : isNum s) : s.size ≤ 7 := by
  obtain ⟨u, _, _, _, _, h5⟩ := num_strip h
  exact h5
theorem val_lt : ∀ (i : Nat) (l : List UInt8) (n : Nat), l.length ≤ i → Lib.decFrom 0 l = some n → n < 10 ^ i := by
  intro i
  induction i with
  | zero =>
    intro l n hl h
    obtain rfl := List.length_eq_zero_iff.1 (by omega : l.length = 0)
    simp [Lib.decFrom] at h; omega
  | succ i ih =>
    intro l n hl h
    rcases List.eq_nil_or_concat l with rfl | ⟨l', b, rfl⟩
    · simp [Lib.decFrom] at h; subst h; exact Nat.pow_pos (by omega)
    · rw [List.concat_eq_append] at h hl
      rw [decFrom_app] at h
      obtain ⟨m, hm, h2⟩ := Option.bind_eq_some_iff.1 h
      obtain ⟨d, hd, rfl⟩ := Option.map_eq_some_iff.1 h2
      rw [List.length_append, List.length_singleton] at hl
      have h3 := ih l' m (by omega) hm
      have h4 : d ≤ 9 := by
        unfold Lib.digitVal at hd
        split at hd
        · have := Option.some.inj hd; omega
        · cases hd
      rw [Nat.pow_succ]; omega
theorem val_lt6 {l : List UInt8} {n : Nat} (hl : l.length ≤ 6) (h : Lib.decFrom 0 l = some n) : n < 1000000 := val_lt 6 l n hl h
theorem take_all {t : ByteArray} {i : Nat} (h : i = t.size) : t.data.toList.take i = t.data.toList := by
  subst h; exact List.take_of_length_le (by simp)
theorem strip_yes {s : ByteArray} (h1 : 1 < s.size) (h2 : bAt s 0 = 45) : stripB s = s.extract 1 s.size := if_pos ⟨h1, h2⟩
theorem strip_no {s : ByteArray} (h : ¬ (1 < s.size ∧ bAt s 0 = 45)) : stripB s = s := if_neg h
theorem ext_size {s : ByteArray} (h : 1 ≤ s.size) : (s.extract 1 s.size).size = s.size - 1 := by simp

end Go.Proofs.YtdlcldaogcbnlaaDoor
