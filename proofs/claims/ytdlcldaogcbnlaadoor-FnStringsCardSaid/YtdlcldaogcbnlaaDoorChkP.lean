/- A text's head before a byte; sealed texts, plainly. No program is named here. -/
import Derived.Test.YtdlcldaogcbnlaaDoorNumP
import Derived.Test.YtdlcldaogcbnlaaDoorJoinP
import Derived.Test.YtdlcldaogcbnlaaDoorSumP
import Derived.Lib.CutLaws
import Derived.Lib.IndexBytes
import Derived.Lib.IndexLaws
namespace Go.Proofs.YtdlcldaogcbnlaaDoor
open Go.RowKit
set_option linter.unusedVariables false

theorem bAt_is {s : ByteArray} {i c : Nat} (h : i < s.size) (hc : c < 256) : bAt s i = c ↔ s.data.toList[i]? = some (UInt8.ofNat c) := by
  obtain ⟨b, h1, h2⟩ := bAt_at h
  rw [h1, h2, Option.some.injEq]
  constructor
  · intro e; subst e; simp
  · rintro rfl; simp; omega
/-- Where a byte first stands in a text; the text's length where it stands nowhere. -/
def firstAt (s : ByteArray) (c : Nat) : Nat := if 0 ≤ idxB s c then (idxB s c).toNat else s.size
theorem first_facts (s : ByteArray) {c : Nat} (hc : c < 256) : firstAt s c ≤ s.size ∧ (∀ k, k < firstAt s c → bAt s k ≠ c) ∧ (firstAt s c < s.size → bAt s (firstAt s c) = c) ∧ standsB s c = decide (firstAt s c < s.size) := by
  have hge : -1 ≤ idxB s c := Lib.indexByte_ge _ _
  rw [idxB_iff hc]
  by_cases h : 0 ≤ idxB s c
  · obtain ⟨o, ho⟩ := Int.eq_ofNat_of_zero_le h
    obtain ⟨h1, h2⟩ := Lib.indexByte_some (show Lib.indexByte s.data.toList (UInt8.ofNat c) = o from ho)
    have hlt : o < s.size := by have := (List.getElem?_eq_some_iff.1 h1).1; simpa using this
    have hf : firstAt s c = o := by unfold firstAt; rw [if_pos h, ho]; rfl
    rw [hf]
    exact ⟨by omega, fun k hk e => h2 k hk ((bAt_is (by omega) hc).1 e), fun _ => (bAt_is hlt hc).2 h1, by rw [decide_eq_true h, decide_eq_true hlt]⟩
  · have hf : firstAt s c = s.size := if_neg h
    have h9 : idxB s c = -1 := by omega
    have h1 := Lib.indexByte_none (show Lib.indexByte s.data.toList (UInt8.ofNat c) = -1 from h9)
    rw [hf]
    exact ⟨by omega, fun k hk e => h1 k ((bAt_is hk hc).1 e), fun h9 => by omega, by rw [decide_eq_false h, decide_eq_false (by omega)]⟩
def headB (s : ByteArray) (c : Nat) : ByteArray := s.extract 0 (firstAt s c)
theorem splitTo_first (s : ByteArray) {c : Nat} (hc : c < 256) : ∀ i, i ≤ s.size → (i ≤ firstAt s c → splitTo s c i = ([], 0)) ∧ (firstAt s c < i → (splitTo s c i).1[0]? = some (headB s c)) := by
  obtain ⟨h1, h2, h3, _⟩ := first_facts s hc
  intro i
  induction i with
  | zero => intro _; exact ⟨fun _ => rfl, fun h => by omega⟩
  | succ i ih =>
    intro hi
    obtain ⟨ia, ib⟩ := ih (by omega)
    refine ⟨fun h => by rw [splitTo_no (h2 i (by omega))]; exact ia (by omega), fun h => ?_⟩
    by_cases hlt : firstAt s c < i
    · have h4 := ib hlt
      by_cases hb : bAt s i = c
      · rw [splitTo_yes hb]
        obtain ⟨h5, h6⟩ := List.getElem?_eq_some_iff.1 h4
        rw [List.getElem?_append_left h5]; exact h4
      · rw [splitTo_no hb]; exact h4
    · have he : i = firstAt s c := by omega
      have hb : bAt s i = c := by rw [he]; exact h3 (by omega)
      rw [splitTo_yes hb, ia (by omega)]
      unfold headB; rw [← he]; rfl
theorem splitL_head (s : ByteArray) {c : Nat} (hc : c < 256) : (splitL s c)[0]? = some (headB s c) := by
  obtain ⟨h1, h2, h3, _⟩ := first_facts s hc
  obtain ⟨ha, hb⟩ := splitTo_first s hc s.size (Nat.le_refl _)
  unfold splitL
  by_cases h : firstAt s c < s.size
  · have h4 := hb h
    obtain ⟨h5, h6⟩ := List.getElem?_eq_some_iff.1 h4
    rw [List.getElem?_append_left h5]; exact h4
  · rw [ha (by omega)]
    have he : firstAt s c = s.size := by omega
    unfold headB; rw [he]; rfl
theorem splitL_pos (s : ByteArray) (c : Nat) : 0 < (splitL s c).length := by
  unfold splitL; rw [List.length_append, List.length_singleton]; omega
theorem head_size (s : ByteArray) {c : Nat} (hc : c < 256) : (headB s c).size = firstAt s c := by
  have := (first_facts s hc).1
  unfold headB; simp; omega
theorem head_le (s : ByteArray) {c : Nat} (hc : c < 256) : (headB s c).size ≤ s.size := by
  rw [head_size s hc]; exact (first_facts s hc).1
theorem head_stands (s : ByteArray) {c : Nat} (hc : c < 256) : standsB (headB s c) c = false := by
  obtain ⟨h1, h2, h3, _⟩ := first_facts s hc
  apply decide_eq_false
  rintro ⟨j, hj, e⟩
  rw [head_size s hc] at hj
  refine h2 j hj ?_
  rw [← e, bAt_list, bAt_list]
  unfold headB
  rw [Lib.extract_data]
  simp [List.getD_eq_getElem?_getD, hj]
/-- strings.Cut at one byte. -/
theorem cut_one (s : ByteArray) {c : Nat} (hc : c < 256) : (⟨(Lib.cut s.data.toList [UInt8.ofNat c]).1.toArray⟩ : ByteArray) = headB s c ∧ (Lib.cut s.data.toList [UInt8.ofNat c]).2.2 = standsB s c := by
  have e : Lib.index s.data.toList [UInt8.ofNat c] = idxB s c := Lib.index_one _ _
  unfold Lib.cut
  rw [e, idxB_iff hc]
  by_cases h : 0 ≤ idxB s c
  · rw [if_pos h, decide_eq_true h]
    refine ⟨?_, rfl⟩
    apply bytes_ext
    unfold headB firstAt
    rw [if_pos h, Lib.extract_data]; simp
  · rw [if_neg h, decide_eq_false h]
    refine ⟨?_, rfl⟩
    apply bytes_ext
    unfold headB firstAt
    rw [if_neg h, Lib.extract_data]; simp
    exact (List.take_of_length_le (by simp)).symm
/-- What follows the byte behind a text's head. -/
def tailB (s : ByteArray) (c : Nat) : ByteArray := if standsB s c = true then s.extract (firstAt s c + 1) s.size else ⟨#[]⟩
theorem cut_tail (s : ByteArray) {c : Nat} (hc : c < 256) : (⟨(Lib.cut s.data.toList [UInt8.ofNat c]).2.1.toArray⟩ : ByteArray) = tailB s c := by
  have e : Lib.index s.data.toList [UInt8.ofNat c] = idxB s c := Lib.index_one _ _
  unfold Lib.cut tailB
  rw [e, idxB_iff hc]
  by_cases h : 0 ≤ idxB s c
  · rw [if_pos h, decide_eq_true h, if_pos rfl]
    apply bytes_ext
    unfold firstAt
    rw [if_pos h, Lib.extract_data]
    simp
    rw [List.take_of_length_le (by simp)]
  · rw [if_neg h, decide_eq_false h]; rfl
def sealB (s : ByteArray) : ByteArray := s ++ (⟨#[35]⟩ : ByteArray) ++ itoaB (csum s.data.toList)
theorem seal_size (s : ByteArray) : s.size + 1 ≤ (sealB s).size ∧ (sealB s).size ≤ s.size + 7 := by
  have hb := csum_bd s.data.toList
  obtain ⟨k, hk⟩ := Int.eq_ofNat_of_zero_le hb.1
  have : (sealB s).size = s.size + 1 + (itoaB (csum s.data.toList)).size := by
    unfold sealB; rw [ByteArray.size_append, ByteArray.size_append]; rfl
  have h6 := digits_len6 (u := k) (by omega)
  have : (itoaB (csum s.data.toList)).size ≤ 6 := by rw [itoaB_size, hk, Lib.itoa_nonneg]; exact h6
  omega
def AppendChecksum_v1 (s : ByteArray) : Bool := decide (s.size ≤ 4000) && (!standsB s 35 && decide ((sealB s).size ≤ 4000))
def AppendChecksum_v0 (s : ByteArray) : ByteArray := if AppendChecksum_v1 s = true then sealB s else ⟨#[]⟩
theorem app_yes {s : ByteArray} (h1 : s.size ≤ 4000) (h2 : standsB s 35 = false) (h3 : (sealB s).size ≤ 4000) : AppendChecksum_v1 s = true := by
  unfold AppendChecksum_v1; rw [decide_eq_true h1, h2, decide_eq_true h3]; rfl
theorem app_no1 {s : ByteArray} (h : ¬ s.size ≤ 4000) : AppendChecksum_v1 s = false := by unfold AppendChecksum_v1; rw [decide_eq_false h]; rfl
theorem app_no2 {s : ByteArray} (h : standsB s 35 = true) : AppendChecksum_v1 s = false := by unfold AppendChecksum_v1; rw [h]; simp
theorem app_no3 {s : ByteArray} (h : ¬ (sealB s).size ≤ 4000) : AppendChecksum_v1 s = false := by unfold AppendChecksum_v1; rw [decide_eq_false h]; simp
theorem app_v0 {s : ByteArray} (h : AppendChecksum_v1 s = true) : AppendChecksum_v0 s = sealB s := if_pos h
theorem app_v0_no {s : ByteArray} (h : AppendChecksum_v1 s = false) : AppendChecksum_v0 s = ⟨#[]⟩ := if_neg (by rw [h]; simp)
def VerifyChecksum_v1 (s : ByteArray) : Bool := decide (s.size ≤ 4000) && decide (sealB (headB s 35) = s)
def VerifyChecksum_v0 (s : ByteArray) : ByteArray := if VerifyChecksum_v1 s = true then headB s 35 else ⟨#[]⟩
theorem ver_yes {s : ByteArray} (h1 : s.size ≤ 4000) (h2 : sealB (headB s 35) = s) : VerifyChecksum_v1 s = true ∧ VerifyChecksum_v0 s = headB s 35 := by
  have h : VerifyChecksum_v1 s = true := by unfold VerifyChecksum_v1; rw [decide_eq_true h1, decide_eq_true h2]; rfl
  exact ⟨h, if_pos h⟩
theorem ver_no {s : ByteArray} (h : ¬ (s.size ≤ 4000 ∧ sealB (headB s 35) = s)) : VerifyChecksum_v1 s = false ∧ VerifyChecksum_v0 s = ⟨#[]⟩ := by
  have h : VerifyChecksum_v1 s = false := by
    unfold VerifyChecksum_v1
    rw [Bool.and_eq_false_iff, decide_eq_false_iff_not, decide_eq_false_iff_not]
    by_cases h1 : s.size ≤ 4000
    · exact .inr (fun h2 => h ⟨h1, h2⟩)
    · exact .inl h1
  exact ⟨h, if_neg (by rw [h]; simp)⟩
theorem ver_nofound {s : ByteArray} (h : standsB s 35 = false) : ¬ (s.size ≤ 4000 ∧ sealB (headB s 35) = s) := fun ⟨_, h2⟩ => by
  obtain ⟨h3, _, _, h6⟩ := first_facts s (c := 35) (by omega)
  rw [h] at h6
  have h7 : ¬ firstAt s 35 < s.size := by simpa using h6.symm
  have h8 := (seal_size (headB s 35)).1
  rw [h2, head_size s (by omega)] at h8; omega
theorem ver_noapp {s : ByteArray} (h : AppendChecksum_v1 (headB s 35) = false) : ¬ (s.size ≤ 4000 ∧ sealB (headB s 35) = s) := fun ⟨h1, h2⟩ => by
  have h3 := head_le s (c := 35) (by omega)
  rw [app_yes (by omega) (head_stands s (by omega)) (by rw [h2]; exact h1)] at h; cases h
theorem ver_ok {s : ByteArray} (h : AppendChecksum_v1 (headB s 35) = true) (e : AppendChecksum_v0 (headB s 35) = s) : s.size ≤ 4000 ∧ sealB (headB s 35) = s := by
  rw [app_v0 h] at e
  refine ⟨?_, e⟩
  unfold AppendChecksum_v1 at h
  simp only [Bool.and_eq_true, decide_eq_true_eq] at h
  rw [← e]; exact h.2.2

end Go.Proofs.YtdlcldaogcbnlaaDoor
