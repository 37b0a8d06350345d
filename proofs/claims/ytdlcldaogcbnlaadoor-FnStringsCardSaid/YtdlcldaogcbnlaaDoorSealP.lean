/- A sealed text with one byte changed is refused, plainly. No program is named here. -/
import Derived.Test.YtdlcldaogcbnlaaDoorChkP
import Derived.Test.YtdlcldaogcbnlaaDoorSplP
namespace Go.Proofs.YtdlcldaogcbnlaaDoor
open Go.RowKit
set_option linter.unusedVariables false

theorem csum_inj (S : List UInt8) : ∀ h h' : Int, (0 ≤ h ∧ h < 999979) → (0 ≤ h' ∧ h' < 999979) → S.foldl (fun h c => (41 * h + (c.toNat : Int) + 1) % 999979) h = S.foldl (fun h c => (41 * h + (c.toNat : Int) + 1) % 999979) h' → h = h' := by
  induction S with
  | nil => intro h h' _ _ e; exact e
  | cons c S ih =>
    intro h h' h1 h2 e
    have h3 := ih ((41 * h + (c.toNat : Int) + 1) % 999979) ((41 * h' + (c.toNat : Int) + 1) % 999979) (by omega) (by omega) e
    omega
theorem csum_set {l : List UInt8} {k : Nat} {a b : UInt8} (hk : l[k]? = some a) (hb : b.toNat ≠ a.toNat) : csum (l.set k b) ≠ csum l := by
  obtain ⟨hlt, ha⟩ := List.getElem?_eq_some_iff.1 hk
  have e1 : l = l.take k ++ a :: l.drop (k + 1) := by
    conv => lhs; rw [← List.take_append_drop k l, List.drop_eq_getElem_cons hlt, ha]
  have e2 : l.set k b = l.take k ++ b :: l.drop (k + 1) := by rw [List.set_eq_take_append_cons_drop, if_pos hlt]
  rw [e2]
  conv => rhs; rhs; rw [e1]
  have hb0 := csum_bd (l.take k)
  have hA := UInt8.toNat_lt a
  have hB := UInt8.toNat_lt b
  unfold csum at hb0 ⊢
  rw [List.foldl_append, List.foldl_append, List.foldl_cons, List.foldl_cons]
  intro e
  have := csum_inj _ _ _ (by omega) (by omega) e
  omega
theorem seal_list (x : ByteArray) : (sealB x).data.toList = x.data.toList ++ 35 :: (itoaB (csum x.data.toList)).data.toList := by
  unfold sealB
  rw [ByteArray.data_append, ByteArray.data_append, Array.toList_append, Array.toList_append]
  simp
theorem no35_itoa (n : Int) : (35 : UInt8) ∉ (itoaB n).data.toList := fun h => by
  have := itoa_bytes n 35 h
  simp at this
/-- One byte of a sealed text turned: no seal. -/
theorem seal_broken {x y : ByteArray} {k : Nat} {b : UInt8} (hx : standsB x 35 = false) (hk : k < (sealB x).size) (hy : y.data.toList = (sealB x).data.toList.set k b) (hb : b.toNat ≠ bAt (sealB x) k) : VerifyChecksum_v1 y = false := by
  refine (ver_no (s := y) (fun ⟨_, h2⟩ => ?_)).1
  have ht := stands_not (c := 35) (by omega) (head_stands y (c := 35) (by omega))
  have hx' := stands_not (c := 35) (by omega) hx
  generalize headB y 35 = t at h2 ht
  have e35 : UInt8.ofNat 35 = (35 : UInt8) := rfl
  rw [e35] at ht hx'
  rw [← h2, seal_list, seal_list] at hy
  obtain ⟨a, ha, ea⟩ := bAt_at hk
  rw [ea] at hb
  rw [seal_list] at ha
  have nx := no35_itoa (csum x.data.toList)
  have nt := no35_itoa (csum t.data.toList)
  generalize hN : (itoaB (csum x.data.toList)).data.toList = N at *
  generalize hN' : (itoaB (csum t.data.toList)).data.toList = N' at *
  -- where the sign stands
  have pos : ∀ (X M : List UInt8) (j : Nat), (35 : UInt8) ∉ X → (35 : UInt8) ∉ M → (X ++ 35 :: M)[j]? = some 35 → j = X.length := by
    intro X M j h1 h2 h3
    rcases Nat.lt_trichotomy j X.length with h | h | h
    · rw [List.getElem?_append_left h] at h3
      exact absurd (List.mem_of_getElem? h3) h1
    · exact h
    · rw [List.getElem?_append_right (by omega)] at h3
      obtain ⟨q, hq⟩ : ∃ q, j - X.length = q + 1 := ⟨j - X.length - 1, by omega⟩
      rw [hq, List.getElem?_cons_succ] at h3
      exact absurd (List.mem_of_getElem? h3) h2
  have at35 : ∀ (X M : List UInt8), (X ++ 35 :: M)[X.length]? = some 35 := fun X M => by rw [List.getElem?_append_right (by omega)]; simp
  have hlen := congrArg List.length hy
  rw [List.length_set] at hlen
  by_cases hl : x.data.toList.length = t.data.toList.length
  · by_cases hk1 : k < x.data.toList.length
    · have e1 := congrArg (List.take x.data.toList.length) hy
      have e2 := congrArg (List.drop (x.data.toList.length + 1)) hy
      rw [List.set_append_left _ _ hk1] at e1 e2
      have l1 : (x.data.toList.set k b).length = x.data.toList.length := List.length_set ..
      have e1' : t.data.toList = x.data.toList.set k b := by
        conv at e1 => lhs; rw [hl]
        rw [List.take_left] at e1
        rw [e1, ← l1, List.take_left]
      have e2' : N' = N := by
        conv at e2 => lhs; rw [hl]
        rw [List.drop_append, List.drop_append, l1] at e2
        simpa [List.drop_eq_nil_of_le] using e2
      rw [List.getElem?_append_left hk1] at ha
      refine csum_set ha hb ?_
      rw [← e1']
      have h5 : itoaB (csum t.data.toList) = itoaB (csum x.data.toList) := bytes_ext (by rw [hN, hN', e2'])
      exact itoaB_inj h5
    · rw [List.set_append_right _ _ (by omega)] at hy
      have e1 := congrArg (List.take x.data.toList.length) hy
      rw [List.take_left] at e1
      conv at e1 => lhs; rw [hl]
      rw [List.take_left] at e1
      have e3 : N' = N := by rw [← hN, ← hN', e1]
      rw [e1, e3] at hy
      have h4 := List.append_cancel_left hy
      have h6 := congrArg (fun l => l[k - x.data.toList.length]?) h4
      rw [List.getElem?_append_right (by omega)] at ha
      have hlt := (List.getElem?_eq_some_iff.1 ha).1
      rw [ha, List.getElem?_set_self hlt] at h6
      obtain rfl := Option.some.inj h6
      exact hb rfl
  · have p1 := at35 t.data.toList N'
    have p2 := at35 x.data.toList N
    have hk1 : t.data.toList.length = k := by
      refine Classical.byContradiction fun hne => ?_
      rw [hy, List.getElem?_set_ne (by omega)] at p1
      exact hl (pos _ _ _ hx' nx p1).symm
    have hk2 : x.data.toList.length = k := by
      refine Classical.byContradiction fun hne => ?_
      rw [← List.getElem?_set_ne (i := k) (a := b) (by omega), ← hy] at p2
      exact hl (pos _ _ _ ht nt p2)
    omega

end Go.Proofs.YtdlcldaogcbnlaaDoor
