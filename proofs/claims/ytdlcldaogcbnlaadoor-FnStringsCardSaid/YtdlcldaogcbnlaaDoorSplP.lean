/- The parts of a text between bytes, as lists; a text's head, the byte and the tail. No program is named here. -/
import Derived.Test.YtdlcldaogcbnlaaDoorChkP
namespace Go.Proofs.YtdlcldaogcbnlaaDoor
open Go.RowKit
set_option linter.unusedVariables false
set_option linter.unusedSimpArgs false

def ofL (l : List UInt8) : ByteArray := ⟨l.toArray⟩
theorem ofL_list (l : List UInt8) : (ofL l).data.toList = l := by simp [ofL]
theorem ofL_self (s : ByteArray) : ofL s.data.toList = s := bytes_ext (ofL_list _)
/-- The parts of a list between bytes. -/
def splitC (c : UInt8) : List UInt8 → List (List UInt8)
  | [] => [[]]
  | b :: r => if b = c then [] :: splitC c r else match splitC c r with
    | h :: t => (b :: h) :: t
    | [] => [[b]]
theorem splitC_ne (c : UInt8) : ∀ l, splitC c l ≠ []
  | [] => by simp [splitC]
  | b :: r => by
    unfold splitC
    split
    · simp
    · split <;> simp
/-- A byte more at a part's end. -/
def addLast (b : UInt8) : List (List UInt8) → List (List UInt8)
  | [] => [[b]]
  | [h] => [h ++ [b]]
  | h :: t => h :: addLast b t
theorem addLast_cons {b : UInt8} {h : List UInt8} {t : List (List UInt8)} (ht : t ≠ []) : addLast b (h :: t) = h :: addLast b t := by
  cases t with
  | nil => exact absurd rfl ht
  | cons x y => rfl
theorem addLast_snoc (b : UInt8) (h : List UInt8) : ∀ l : List (List UInt8), addLast b (l ++ [h]) = l ++ [h ++ [b]]
  | [] => rfl
  | x :: t => by rw [List.cons_append, addLast_cons (by simp), addLast_snoc b h t]; rfl
theorem splitC_snoc (c b : UInt8) : ∀ l, splitC c (l ++ [b]) = if b = c then splitC c l ++ [[]] else addLast b (splitC c l)
  | [] => by
    by_cases h : b = c
    · simp [splitC, h]
    · simp [splitC, h, addLast]
  | x :: r => by
    have ih := splitC_snoc c b r
    have hne := splitC_ne c r
    rw [List.cons_append]
    conv => lhs; unfold splitC
    conv => rhs; unfold splitC
    by_cases hx : x = c
    · rw [if_pos hx, if_pos hx, ih]
      by_cases h : b = c
      · rw [if_pos h, if_pos h]; rfl
      · rw [if_neg h, if_neg h, addLast_cons hne]
    · rw [if_neg hx, if_neg hx, ih]
      cases hs : splitC c r with
      | nil => exact absurd hs hne
      | cons y t =>
        by_cases h : b = c
        · rw [if_pos h, if_pos h]; rfl
        · rw [if_neg h, if_neg h]
          cases t with
          | nil => rfl
          | cons z u => rfl
theorem take_snoc {s : ByteArray} {i : Nat} (h : i < s.size) : s.data.toList.take (i + 1) = s.data.toList.take i ++ [UInt8.ofNat (bAt s i)] := by
  obtain ⟨b, h1, h2⟩ := bAt_at h
  rw [List.take_add_one, h1, h2]; simp
theorem extract_snoc {s : ByteArray} {f i : Nat} (h : i < s.size) (hf : f ≤ i) : (s.extract f (i + 1)).data.toList = (s.extract f i).data.toList ++ [UInt8.ofNat (bAt s i)] := by
  obtain ⟨b, h1, h2⟩ := bAt_at h
  rw [Lib.extract_data, Lib.extract_data, show i + 1 - f = (i - f) + 1 by omega, List.take_add_one, List.getElem?_drop, show f + (i - f) = i by omega, h1, h2]; simp
theorem splitTo_splitC (s : ByteArray) {c : Nat} (hc : c < 256) : ∀ i, i ≤ s.size → splitC (UInt8.ofNat c) (s.data.toList.take i) = (splitTo s c i).1.map (·.data.toList) ++ [(s.extract (splitTo s c i).2 i).data.toList] := by
  intro i
  induction i with
  | zero => intro _; simp [splitC, splitTo, Lib.extract_data]
  | succ i ih =>
    intro hi
    have hle := (splitTo_le s c i).2
    rw [take_snoc (by omega), splitC_snoc, ih (by omega)]
    by_cases h : bAt s i = c
    · rw [if_pos (by rw [h]), splitTo_yes h]
      simp [Lib.extract_data]
    · have hb := bAt_lt s i
      have hne : ¬ UInt8.ofNat (bAt s i) = UInt8.ofNat c := fun e => h (by
        have e2 := congrArg UInt8.toNat e
        simp at e2; omega)
      rw [if_neg hne, splitTo_no h, addLast_snoc, extract_snoc (by omega) hle]
theorem splitL_splitC (s : ByteArray) {c : Nat} (hc : c < 256) : splitL s c = (splitC (UInt8.ofNat c) s.data.toList).map ofL := by
  have h := splitTo_splitC s hc s.size (Nat.le_refl _)
  rw [take_all rfl] at h
  rw [h]
  unfold splitL
  simp only [List.map_append, List.map_map, List.map_cons, List.map_nil]
  rw [show (ofL ∘ fun x : ByteArray => x.data.toList) = id from funext ofL_self, List.map_id, ofL_self]
theorem splitC_app {c : UInt8} {x y : List UInt8} (h : c ∉ x) : splitC c (x ++ c :: y) = x :: splitC c y := by
  induction x with
  | nil => simp [splitC]
  | cons b r ih =>
    have hb : ¬ b = c := fun e => h (by rw [e]; exact List.mem_cons_self ..)
    have := ih (fun e => h (List.mem_cons_of_mem _ e))
    rw [List.cons_append]
    conv => lhs; unfold splitC
    rw [if_neg hb, this]
theorem splitC_one {c : UInt8} {x : List UInt8} (h : c ∉ x) : splitC c x = [x] := by
  induction x with
  | nil => rfl
  | cons b r ih =>
    have hb : ¬ b = c := fun e => h (by rw [e]; exact List.mem_cons_self ..)
    unfold splitC
    rw [if_neg hb, ih (fun e => h (List.mem_cons_of_mem _ e))]
theorem not_stands {s : ByteArray} {c : Nat} (hc : c < 256) (h : UInt8.ofNat c ∉ s.data.toList) : standsB s c = false := by
  rw [stands_contains hc]
  simpa using h
theorem stands_not {s : ByteArray} {c : Nat} (hc : c < 256) (h : standsB s c = false) : UInt8.ofNat c ∉ s.data.toList := by
  rw [stands_contains hc] at h
  simpa using h
theorem mem_of_stands {s : ByteArray} {c : Nat} (hc : c < 256) (h : standsB s c = true) : UInt8.ofNat c ∈ s.data.toList := by
  rw [stands_contains hc] at h
  simpa using h
/-- The parts of a text that is put together. -/
theorem splitL_app {x y : ByteArray} {c : Nat} (hc : c < 256) (h : standsB x c = false) : splitL (x ++ (⟨#[UInt8.ofNat c]⟩ : ByteArray) ++ y) c = x :: splitL y c := by
  have hl : (x ++ (⟨#[UInt8.ofNat c]⟩ : ByteArray) ++ y).data.toList = x.data.toList ++ UInt8.ofNat c :: y.data.toList := by
    rw [ByteArray.data_append, ByteArray.data_append]; simp
  rw [splitL_splitC _ hc, splitL_splitC _ hc, hl, splitC_app (stands_not hc h), List.map_cons, ofL_self]
theorem splitL_one {x : ByteArray} {c : Nat} (hc : c < 256) (h : standsB x c = false) : splitL x c = [x] := by
  rw [splitL_splitC _ hc, splitC_one (stands_not hc h), List.map_cons, List.map_nil, ofL_self]
/-- A text with a byte in it is its head, that byte, and its tail. -/
theorem head_tail {s : ByteArray} {c : Nat} (hc : c < 256) (h : standsB s c = true) : s = headB s c ++ (⟨#[UInt8.ofNat c]⟩ : ByteArray) ++ tailB s c := by
  obtain ⟨h1, h2, h3, h4⟩ := first_facts s hc
  rw [h] at h4
  have h5 : firstAt s c < s.size := by simpa using h4.symm
  obtain ⟨b, hb, e⟩ := bAt_at h5
  have hb2 : b = UInt8.ofNat c := by
    have := h3 h5
    rw [e] at this; rw [← this]; simp
  apply bytes_ext
  rw [ByteArray.data_append, ByteArray.data_append]
  unfold headB tailB
  rw [if_pos h]
  simp only [Array.toList_append, Lib.extract_data, List.drop_zero, Nat.sub_zero]
  have e1 : s.data.toList = s.data.toList.take (firstAt s c) ++ s.data.toList.drop (firstAt s c) := (List.take_append_drop _ _).symm
  have e2 : s.data.toList.drop (firstAt s c) = b :: s.data.toList.drop (firstAt s c + 1) := by
    obtain ⟨hl, e9⟩ := List.getElem?_eq_some_iff.1 hb
    rw [List.drop_eq_getElem_cons hl, e9]
  rw [List.take_of_length_le (l := s.data.toList.drop (firstAt s c + 1)) (by simp)]
  conv => lhs; rw [e1, e2, hb2]
  simp
theorem head_app {x y : ByteArray} {c : Nat} (hc : c < 256) (h : standsB x c = false) : headB (x ++ (⟨#[UInt8.ofNat c]⟩ : ByteArray) ++ y) c = x := by
  have h1 := splitL_head (x ++ (⟨#[UInt8.ofNat c]⟩ : ByteArray) ++ y) hc
  rw [splitL_app hc h] at h1
  exact (Option.some.inj h1).symm
theorem app_inj {x y x' y' : ByteArray} (e : x ++ y = x' ++ y') (h : x.size = x'.size) : x = x' ∧ y = y' := by
  have e2 := congrArg (fun s : ByteArray => s.data.toList) e
  simp only [ByteArray.data_append, Array.toList_append] at e2
  obtain ⟨h1, h2⟩ := List.append_inj e2 (by simpa using h)
  exact ⟨bytes_ext h1, bytes_ext h2⟩
theorem stands_app {x y : ByteArray} {c : Nat} (hc : c < 256) : standsB (x ++ (⟨#[UInt8.ofNat c]⟩ : ByteArray) ++ y) c = true := by
  rw [stands_contains hc, ByteArray.data_append, ByteArray.data_append]
  simp
theorem tail_app {x y : ByteArray} {c : Nat} (hc : c < 256) (h : standsB x c = false) : tailB (x ++ (⟨#[UInt8.ofNat c]⟩ : ByteArray) ++ y) c = y := by
  have h1 := head_tail hc (stands_app (x := x) (y := y) hc)
  rw [head_app hc h] at h1
  exact (app_inj h1 (by simp)).2.symm
/-- A number's text has no byte but a sign and digits. -/
theorem itoa_bytes (n : Int) (b : UInt8) (h : b ∈ (itoaB n).data.toList) : b.toNat = 45 ∨ 48 ≤ b.toNat ∧ b.toNat ≤ 57 := by
  rw [itoaB_list] at h
  by_cases h0 : n < 0
  · obtain ⟨k, hk⟩ : ∃ k : Nat, n = -(k : Int) := ⟨n.natAbs, by omega⟩
    subst hk
    rw [Lib.itoa_neg k (by omega)] at h
    cases h with
    | head => exact .inl rfl
    | tail _ h => exact .inr (digits_in k b h)
  · obtain ⟨k, rfl⟩ := Int.eq_ofNat_of_zero_le (show 0 ≤ n by omega)
    rw [Lib.itoa_nonneg] at h
    exact .inr (digits_in k b h)
theorem itoa_stands (n : Int) {c : Nat} (h : c < 45 ∨ c = 46 ∨ c = 47 ∨ 57 < c) (hc : c < 256) : standsB (itoaB n) c = false := by
  apply not_stands hc
  intro hm
  have := itoa_bytes n _ hm
  simp at this; omega
theorem itoa_pos (n : Int) : 1 ≤ (itoaB n).size := by
  rw [itoaB_size]
  by_cases h0 : n < 0
  · obtain ⟨k, hk⟩ : ∃ k : Nat, n = -(k : Int) := ⟨n.natAbs, by omega⟩
    subst hk
    rw [Lib.itoa_neg k (by omega)]; simp
  · obtain ⟨k, rfl⟩ := Int.eq_ofNat_of_zero_le (show 0 ≤ n by omega)
    rw [Lib.itoa_nonneg]; exact digits_len_pos k

end Go.Proofs.YtdlcldaogcbnlaaDoor
