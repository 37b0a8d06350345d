/- The parts of a network, plainly. No program is named here. -/
import Derived.Test.YtdlcldaogcbnlaaReach
namespace Go.Proofs.Ytdlcldaogcbnlaa
open Go.RowKit
set_option linter.unusedVariables false

section
variable {E : Int → Int → Prop} {m : Nat}
/-- The part of a node, where the node is its first. -/
noncomputable def partAt (E : Int → Int → Prop) (m : Nat) (k : Nat) : List (List Int) := if (reachList E m ((k : Int) + 1))[0]? = some ((k : Int) + 1) then [reachList E m ((k : Int) + 1)] else []
noncomputable def partsTo (E : Int → Int → Prop) (m : Nat) : Nat → List (List Int)
  | 0 => []
  | k + 1 => partsTo E m k ++ partAt E m k
theorem parts_yes {k : Nat} {x : Int} (hx : (reachList E m ((k : Int) + 1))[0]? = some x) (e : x = (k : Int) + 1) : partsTo E m (k + 1) = partsTo E m k ++ [reachList E m ((k : Int) + 1)] := by
  show partsTo E m k ++ partAt E m k = _
  unfold partAt
  rw [if_pos (by rw [hx, e])]
theorem parts_no {k : Nat} {x : Int} (hx : (reachList E m ((k : Int) + 1))[0]? = some x) (e : ¬ x = (k : Int) + 1) : partsTo E m (k + 1) = partsTo E m k := by
  show partsTo E m k ++ partAt E m k = _
  unfold partAt
  rw [if_neg (by rw [hx]; intro h; exact e (Option.some.inj h)), List.append_nil]
theorem parts_len (k : Nat) : (partsTo E m k).length ≤ k := by
  induction k with
  | zero => exact Nat.le_refl _
  | succ k ih =>
    show (partsTo E m k ++ partAt E m k).length ≤ _
    rw [List.length_append]
    have : (partAt E m k).length ≤ 1 := by unfold partAt; split <;> simp
    omega
theorem mem_parts {zs : List Int} : ∀ {k : Nat}, zs ∈ partsTo E m k → ∃ v : Int, (1 ≤ v ∧ v ≤ k) ∧ zs = reachList E m v := by
  intro k
  induction k with
  | zero => intro h; cases h
  | succ k ih =>
    intro h
    rcases List.mem_append.1 (show zs ∈ partsTo E m k ++ partAt E m k from h) with h1 | h1
    · obtain ⟨v, hv, e⟩ := ih h1
      exact ⟨v, by omega, e⟩
    · unfold partAt at h1
      split at h1
      · exact ⟨(k : Int) + 1, by omega, by simpa using h1⟩
      · cases h1
theorem reachList_same (hE : Symm E) {a b : Int} (h : Reach E a b) : reachList E m b = reachList E m a := by
  refine sorted_ext _ _ (sorted_reachList E m b) (sorted_reachList E m a) (fun c => ?_)
  rw [mem_reachList, mem_reachList]
  exact ⟨fun ⟨h1, h2⟩ => ⟨h1, reach_trans h h2⟩, fun ⟨h1, h2⟩ => ⟨h1, reach_trans (reach_symm hE h) h2⟩⟩
/-- Each node of a part has this part. -/
theorem part_all (hE : Symm E) {zs : List Int} {k : Nat} (h : zs ∈ partsTo E m k) {b : Int} (hb : b ∈ zs) : (1 ≤ b ∧ b ≤ m) ∧ reachList E m b = zs := by
  obtain ⟨v, hv, rfl⟩ := mem_parts h
  obtain ⟨h1, h2⟩ := mem_reachList.1 hb
  exact ⟨h1, reachList_same hE h2⟩
/-! ### all parts together have all nodes -/
def lensOf (zss : List (List Int)) : Nat := (zss.map List.length).sum
theorem lensOf_snoc (zss : List (List Int)) (zs : List Int) : lensOf (zss ++ [zs]) = lensOf zss + zs.length := by simp [lensOf]
theorem lensOf_app (xs ys : List (List Int)) : lensOf (xs ++ ys) = lensOf xs + lensOf ys := by simp [lensOf]
theorem lensOf_take {zss : List (List Int)} {i : Nat} {zs : List Int} (h : zss[i]? = some zs) : lensOf (zss.take (i + 1)) = lensOf (zss.take i) + zs.length := by
  rw [List.take_add_one, h]; exact lensOf_snoc _ _
theorem lensOf_le {zss : List (List Int)} {m : Nat} (h : ∀ zs ∈ zss, zs.length ≤ m) : lensOf zss ≤ zss.length * m := by
  induction zss with
  | nil => simp [lensOf]
  | cons z zss ih =>
    have h1 := ih (fun zs hz => h zs (List.mem_cons_of_mem _ hz))
    have h2 := h z (List.mem_cons_self ..)
    simp only [lensOf, List.map_cons, List.sum_cons, List.length_cons] at h1 ⊢
    rw [Nat.add_mul]; omega
noncomputable def fstOf (E : Int → Int → Prop) (m : Nat) (b : Int) : Int := (reachList E m b).headD 0
theorem reachList_ne {b : Int} (hb : 1 ≤ b ∧ b ≤ m) : reachList E m b ≠ [] := fun e => by
  have : b ∈ reachList E m b := mem_reachList.2 ⟨hb, reach_refl E b⟩
  rw [e] at this; cases this
theorem fst_mem {b : Int} (hb : 1 ≤ b ∧ b ≤ m) : (reachList E m b)[0]? = some (fstOf E m b) ∧ fstOf E m b ∈ reachList E m b := by
  unfold fstOf
  have h := reachList_ne (E := E) hb
  cases he : reachList E m b with
  | nil => exact absurd he h
  | cons z zs => exact ⟨rfl, by simp⟩
theorem fst_same (hE : Symm E) {a b : Int} (h : Reach E a b) : fstOf E m b = fstOf E m a := by unfold fstOf; rw [reachList_same hE h]
theorem countP_next (zs : List Int) (f : Int → Int) (K : Int) : zs.countP (fun b => decide (f b ≤ K + 1)) = zs.countP (fun b => decide (f b ≤ K)) + zs.countP (fun b => decide (f b = K + 1)) := by
  induction zs with
  | nil => rfl
  | cons z zs ih =>
    rw [List.countP_cons, List.countP_cons, List.countP_cons, ih]
    by_cases h1 : f z ≤ K
    · rw [decide_eq_true h1, decide_eq_true (show f z ≤ K + 1 by omega), decide_eq_false (show ¬ f z = K + 1 by omega)]; simp; omega
    · by_cases h2 : f z = K + 1
      · rw [decide_eq_false h1, decide_eq_true (show f z ≤ K + 1 by omega), decide_eq_true h2]; simp; omega
      · rw [decide_eq_false h1, decide_eq_false (show ¬ f z ≤ K + 1 by omega), decide_eq_false h2]; simp
theorem countP_all {zs : List Int} {q : Int → Bool} (h : ∀ z ∈ zs, q z = true) : zs.countP q = zs.length := by
  induction zs with
  | nil => rfl
  | cons z zs ih =>
    rw [List.countP_cons, ih (fun y hy => h y (List.mem_cons_of_mem _ hy)), h z (List.mem_cons_self ..)]; simp
theorem countP_no {zs : List Int} {q : Int → Bool} (h : ∀ z ∈ zs, q z = false) : zs.countP q = 0 := by
  induction zs with
  | nil => rfl
  | cons z zs ih =>
    rw [List.countP_cons, ih (fun y hy => h y (List.mem_cons_of_mem _ hy)), h z (List.mem_cons_self ..)]; simp
theorem countP_same {zs : List Int} {q r : Int → Bool} (h : ∀ z ∈ zs, q z = r z) : zs.countP q = zs.countP r := by
  induction zs with
  | nil => rfl
  | cons z zs ih =>
    rw [List.countP_cons, List.countP_cons, ih (fun y hy => h y (List.mem_cons_of_mem _ hy)), h z (List.mem_cons_self ..)]
theorem part_count (hE : Symm E) {k : Nat} (hk : k + 1 ≤ m) : lensOf (partAt E m k) = (nodesTo m).countP (fun b => decide (fstOf E m b = (k : Int) + 1)) := by
  have hK : (1 : Int) ≤ (k : Int) + 1 ∧ (k : Int) + 1 ≤ m := by omega
  have hf := fst_mem (E := E) hK
  unfold partAt
  by_cases h : (reachList E m ((k : Int) + 1))[0]? = some ((k : Int) + 1)
  · rw [if_pos h]
    have hfk : fstOf E m ((k : Int) + 1) = (k : Int) + 1 := by rw [hf.1] at h; exact Option.some.inj h
    have e : lensOf [reachList E m ((k : Int) + 1)] = (reachList E m ((k : Int) + 1)).length := by simp [lensOf]
    rw [e]
    show ((nodesTo m).filter (fun b => decide (0 ≤ distOf E ((k : Int) + 1) b))).length = _
    rw [← List.countP_eq_length_filter]
    refine countP_same (fun b hb => ?_)
    have hb' := mem_nodesTo.1 hb
    by_cases hr : Reach E ((k : Int) + 1) b
    · rw [decide_eq_true (dist_pos.2 hr), decide_eq_true (by rw [fst_same hE hr, hfk])]
    · rw [decide_eq_false (fun h9 => hr (dist_pos.1 h9)), decide_eq_false]
      intro h9
      have h8 := (mem_reachList.1 (fst_mem (E := E) hb').2).2
      rw [h9] at h8
      exact hr (reach_symm hE h8)
  · rw [if_neg h]
    show 0 = _
    symm
    refine countP_no (fun b hb => decide_eq_false (fun h9 => h ?_))
    have hb' := mem_nodesTo.1 hb
    have h8 := (mem_reachList.1 (fst_mem (E := E) hb').2).2
    rw [h9] at h8
    rw [hf.1, fst_same hE h8, h9]
theorem parts_count (hE : Symm E) : ∀ k : Nat, k ≤ m → lensOf (partsTo E m k) = (nodesTo m).countP (fun b => decide (fstOf E m b ≤ (k : Int))) := by
  intro k
  induction k with
  | zero =>
    intro _
    show 0 = _
    symm
    refine countP_no (fun b hb => decide_eq_false (fun h9 => ?_))
    have h8 := (mem_reachList.1 (fst_mem (E := E) (mem_nodesTo.1 hb)).2).1
    omega
  | succ k ih =>
    intro hk
    show lensOf (partsTo E m k ++ partAt E m k) = _
    rw [lensOf_app, ih (by omega), part_count hE hk]
    rw [show ((k + 1 : Nat) : Int) = (k : Int) + 1 by omega, countP_next]
theorem parts_all (hE : Symm E) : lensOf (partsTo E m m) = m := by
  rw [parts_count hE m (Nat.le_refl _), countP_all, nodesTo_len]
  intro b hb
  have h8 := (mem_reachList.1 (fst_mem (E := E) (mem_nodesTo.1 hb)).2).1
  exact decide_eq_true h8.2
end

end Go.Proofs.Ytdlcldaogcbnlaa
