/- What is split can be joined again; the order of texts is strict. No program is named here. -/
import Derived.Test.YtgpallafdmjbdaaSplP
namespace Go.Proofs.Ytgpallafdmjbdaa
open Go.RowKit
set_option linter.unusedVariables false
set_option linter.unusedSimpArgs false

theorem splitC_no {c : UInt8} : ∀ (l x : List UInt8), x ∈ splitC c l → c ∉ x
  | [], x, h => by
    simp [splitC] at h; subst h; simp
  | b :: r, x, h => by
    have ih := splitC_no (c := c) r
    unfold splitC at h
    split at h
    · cases h with
      | head => simp
      | tail _ h => exact ih x h
    · rename_i hb
      cases hs : splitC c r with
      | nil => exact absurd hs (splitC_ne c r)
      | cons y t =>
        rw [hs] at h
        cases h with
        | head =>
          intro hm
          cases hm with
          | head => exact hb rfl
          | tail _ hm => exact ih y (by rw [hs]; exact List.mem_cons_self ..) hm
        | tail _ h => exact ih x (by rw [hs]; exact List.mem_cons_of_mem _ h)
theorem join_splitC (c : UInt8) : ∀ l : List UInt8, Lib.join (splitC c l) [c] = l
  | [] => by simp [splitC, Lib.join_one]
  | b :: r => by
    have ih := join_splitC c r
    unfold splitC
    cases hs : splitC c r with
    | nil => exact absurd hs (splitC_ne c r)
    | cons y t =>
      rw [hs, Lib.join_cons] at ih
      split
      · rename_i hb
        rw [Lib.join_cons]
        simp only [Lib.joinTail, List.map_cons, List.flatten_cons, List.nil_append]
        unfold Lib.joinTail at ih
        rw [hb, ← ih]; simp
      · rw [Lib.join_cons, ← ih]; rfl
theorem sep_one {sep : ByteArray} (h : sep.size = 1) : sep = ⟨#[UInt8.ofNat (bAt sep 0)]⟩ := by
  obtain ⟨b, h1, h2⟩ := bAt_at (t := sep) (i := 0) (by omega)
  apply bytes_ext
  have hl : sep.data.toList.length = 1 := by rw [← Lib.size_eq]; exact h
  match hd : sep.data.toList, hl with
  | [x], _ =>
    rw [hd] at h1
    simp at h1
    subst h1
    rw [h2]; simp
theorem ofL_map (L : List (List UInt8)) : (L.map ofL).map (fun x : ByteArray => x.data.toList) = L := by
  rw [List.map_map, show ((fun x : ByteArray => x.data.toList) ∘ ofL) = id from funext ofL_list, List.map_id]
theorem join_split {s sep : ByteArray} (h : sep.size = 1) : joinB (splitL s (bAt sep 0)) sep = s := by
  have hc := bAt_lt sep 0
  apply bytes_ext
  unfold joinB
  rw [splitL_splitC s hc, ofL_map]
  have hs : sep.data.toList = [UInt8.ofNat (bAt sep 0)] := by
    have := congrArg (fun x : ByteArray => x.data.toList) (sep_one h)
    simpa using this
  rw [hs, join_splitC]
theorem split_no {s x : ByteArray} {c : Nat} (hc : c < 256) (h : x ∈ splitL s c) : standsB x c = false := by
  rw [splitL_splitC s hc] at h
  obtain ⟨l, hl, rfl⟩ := List.mem_map.1 h
  apply not_stands hc
  rw [ofL_list]
  exact splitC_no _ l hl
theorem split_join_ok {s sep : ByteArray} (h : sep.size = 1) (hs : s.size ≤ 4000) : JoinStrings_v1 (splitL s (bAt sep 0)) sep = true ∧ JoinStrings_v0 (splitL s (bAt sep 0)) sep = s := by
  have hj := join_split (s := s) h
  have hz := joinB_size (splitL s (bAt sep 0)) sep (splitL_pos _ _)
  rw [hj, h] at hz
  have h1 := join_yes h (splitL_pos s (bAt sep 0)) (fun x hx => split_no (bAt_lt sep 0) hx) (by omega)
  exact ⟨h1, by unfold JoinStrings_v0; rw [if_pos h1, hj]⟩
theorem less_asym : ∀ x y : List UInt8, Op.bytesLess x y = true → Op.bytesLess y x = false
  | _, [], h => by simp [Op.bytesLess] at h
  | [], _ :: _, _ => by simp [Op.bytesLess]
  | a :: x, b :: y, h => by
    simp only [Op.bytesLess, Bool.or_eq_true, Bool.and_eq_true, decide_eq_true_eq, beq_iff_eq] at h
    simp only [Op.bytesLess, Bool.or_eq_false_iff, Bool.and_eq_false_iff, decide_eq_false_iff_not, beq_eq_false_iff_ne]
    rcases h with h | ⟨rfl, h⟩
    · exact ⟨UInt8.lt_asymm h, .inl (fun e => by subst e; exact UInt8.lt_irrefl _ h)⟩
    · exact ⟨UInt8.lt_irrefl _, .inr (less_asym x y h)⟩

end Go.Proofs.Ytgpallafdmjbdaa
