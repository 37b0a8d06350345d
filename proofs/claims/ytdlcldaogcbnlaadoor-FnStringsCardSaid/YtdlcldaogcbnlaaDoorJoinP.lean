/- Texts joined, plainly. No program is named here. -/
import Derived.Test.YtdlcldaogcbnlaaDoorSplit
import Derived.Lib.Join
import Derived.Lib.IndexAny
namespace Go.Proofs.YtdlcldaogcbnlaaDoor
open Go.RowKit
set_option linter.unusedVariables false

def lenSum (zs : List ByteArray) : Nat := (zs.map ByteArray.size).sum
theorem lenSum_take {zs : List ByteArray} {k : Nat} {x : ByteArray} (h : zs[k]? = some x) : lenSum (zs.take (k + 1)) = lenSum (zs.take k) + x.size := by
  unfold lenSum; rw [List.take_add_one, h]; simp
theorem lenSum_take_le (zs : List ByteArray) (k : Nat) : lenSum (zs.take k) ≤ lenSum zs := by
  have h : lenSum zs = lenSum (zs.take k) + lenSum (zs.drop k) := by
    unfold lenSum
    rw [← List.sum_append, ← List.map_append, List.take_append_drop]
  omega
theorem lenSum_mem {zs : List ByteArray} {x : ByteArray} (h : x ∈ zs) : x.size ≤ lenSum zs := by
  obtain ⟨k, hk, rfl⟩ := List.getElem_of_mem h
  have h1 := lenSum_take (List.getElem?_eq_getElem hk)
  have h2 := lenSum_take_le zs (k + 1)
  omega
def joinB (zs : List ByteArray) (sep : ByteArray) : ByteArray := ⟨(Lib.join (zs.map (·.data.toList)) sep.data.toList).toArray⟩
theorem empty_app (x : ByteArray) : ((⟨#[]⟩ : ByteArray) ++ x) = x := by
  apply ByteArray.ext; rw [ByteArray.data_append]; simp
theorem joinB_take {zs : List ByteArray} {k : Nat} {x sep : ByteArray} (h : zs[k]? = some x) : joinB (zs.take (k + 1)) sep = if k = 0 then x else joinB (zs.take k) sep ++ sep ++ x := by
  have e : ∀ a b : ByteArray, a.data.toList = b.data.toList → a = b := fun a b h => ByteArray.ext (Array.toList_inj.1 h)
  apply e
  match zs, k, h with
  | z :: r, 0, h =>
    obtain rfl : z = x := by simpa using h
    simp [joinB, Lib.join_one]
  | z :: r, k + 1, h =>
    have h' : r[k]? = some x := by simpa using h
    rw [if_neg (by omega), ByteArray.data_append, ByteArray.data_append]
    simp only [joinB, List.take_succ_cons, List.map_cons, Lib.join_cons, List.map_take, Array.toList_append]
    rw [Lib.joinTail_take_succ _ _ _ x.data.toList (by rw [List.getElem?_map, h']; rfl)]
    simp
theorem joinB_size (zs : List ByteArray) (sep : ByteArray) (h : 0 < zs.length) : (joinB zs sep).size = lenSum zs + sep.size * (zs.length - 1) := by
  match zs, h with
  | z :: r, _ =>
    have h1 : (joinB (z :: r) sep).size = (Lib.join ((z :: r).map (·.data.toList)) sep.data.toList).length := by
      rw [Lib.size_eq]; rfl
    rw [h1, List.map_cons, Lib.join_length]
    have h2 : ∀ l : List ByteArray, Lib.lens (l.map (·.data.toList)) = lenSum l := fun l => by
      unfold Lib.lens lenSum; rw [List.map_map]; rfl
    have h3 : Lib.lens (z.data.toList :: r.map (·.data.toList)) = lenSum (z :: r) := h2 (z :: r)
    rw [h3, List.length_map, List.length_cons, Lib.size_eq sep]; simp; omega
def idxB (s : ByteArray) (c : Nat) : Int := Lib.indexByte s.data.toList (((c : Nat) : Int)).toNat.toUInt8
theorem stands_contains {s : ByteArray} {c : Nat} (hc : c < 256) : standsB s c = s.data.toList.contains (UInt8.ofNat c) := by
  unfold standsB
  rw [Bool.eq_iff_iff, decide_eq_true_iff, List.contains_iff_mem]
  constructor
  · rintro ⟨j, h1, h2⟩
    rw [bAt_get h1] at h2
    have : UInt8.ofNat c = s[j] := by rw [← h2]; simp
    rw [this]
    exact List.mem_of_getElem? (i := j) (by rw [List.getElem?_eq_getElem (by simpa using h1)]; rfl)
  · intro h
    obtain ⟨j, hj, e⟩ := List.getElem_of_mem h
    refine ⟨j, by simpa using hj, ?_⟩
    rw [bAt_get (by simpa using hj)]
    have e2 : s[j]'(by simpa using hj) = UInt8.ofNat c := e
    rw [e2]; simp; omega
theorem idxB_iff {s : ByteArray} {c : Nat} (hc : c < 256) : standsB s c = decide (0 ≤ idxB s c) := by
  rw [stands_contains hc, Lib.contains_iff_indexByte]; rfl
theorem idxB_stands {s : ByteArray} {c : Nat} (hc : c < 256) (h : idxB s c ≥ 0) : standsB s c = true := by rw [idxB_iff hc]; simpa using h
theorem idxB_not {s : ByteArray} {c : Nat} (hc : c < 256) (h : ¬ idxB s c ≥ 0) : standsB s c = false := by rw [idxB_iff hc]; simpa using h
theorem all_take {zs : List ByteArray} {k c : Nat} {x : ByteArray} (h : ∀ x, x ∈ zs.take k → standsB x c = false) (hx : zs[k]? = some x) (h2 : standsB x c = false) : ∀ x, x ∈ zs.take (k + 1) → standsB x c = false := fun y hy => by
  rw [List.take_add_one, hx] at hy
  rcases List.mem_append.1 hy with h3 | h3
  · exact h y h3
  · obtain rfl : y = x := by simpa using h3
    exact h2
def JoinStrings_v1 (zs : List ByteArray) (sep : ByteArray) : Bool := decide (sep.size = 1) && (decide (0 < zs.length) && (zs.all (fun x => !standsB x (bAt sep 0)) && decide (lenSum zs + (zs.length - 1) ≤ 4000)))
def JoinStrings_v0 (zs : List ByteArray) (sep : ByteArray) : ByteArray := if JoinStrings_v1 zs sep = true then joinB zs sep else ⟨#[]⟩
theorem join_yes {zs : List ByteArray} {sep : ByteArray} (h1 : sep.size = 1) (h2 : 0 < zs.length) (h3 : ∀ x, x ∈ zs → standsB x (bAt sep 0) = false) (h4 : lenSum zs + (zs.length - 1) ≤ 4000) : JoinStrings_v1 zs sep = true := by
  unfold JoinStrings_v1
  rw [decide_eq_true h1, decide_eq_true h2, decide_eq_true h4, List.all_eq_true.2 (fun x hx => by rw [h3 x hx]; rfl)]; rfl
theorem join_no1 {zs : List ByteArray} {sep : ByteArray} (h : sep.size ≠ 1 ∨ zs.length = 0) : JoinStrings_v1 zs sep = false := by
  unfold JoinStrings_v1
  rcases h with h | h
  · rw [decide_eq_false h]; rfl
  · rw [decide_eq_false (show ¬ 0 < zs.length by omega)]; simp
theorem join_no2 {zs : List ByteArray} {sep : ByteArray} {k : Nat} {x : ByteArray} (hx : zs[k]? = some x) (h : standsB x (bAt sep 0) = true) : JoinStrings_v1 zs sep = false := by
  unfold JoinStrings_v1
  have : zs.all (fun x => !standsB x (bAt sep 0)) = false := by
    rw [List.all_eq_false]; exact ⟨x, List.mem_of_getElem? hx, by rw [h]; simp⟩
  rw [this]; simp
theorem join_no3 {zs : List ByteArray} {sep : ByteArray} (h : ¬ lenSum zs + (zs.length - 1) ≤ 4000) : JoinStrings_v1 zs sep = false := by
  unfold JoinStrings_v1
  rw [decide_eq_false h]; simp

end Go.Proofs.YtdlcldaogcbnlaaDoor
