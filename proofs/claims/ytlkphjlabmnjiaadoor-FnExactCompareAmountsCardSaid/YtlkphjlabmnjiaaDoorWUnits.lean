/- The walks of the laws FnExactVolumeIn, FnExactAddAmounts, FnExactCompareAmounts. -/
import Derived.Test.YtlkphjlabmnjiaaDoorUnit3
import Derived.Test.YtlkphjlabmnjiaaDoorWConvert
namespace Go.Proofs.YtlkphjlabmnjiaaDoor
open Go.RowKit
set_option linter.unusedVariables false

theorem w_FnExactVolumeIn (v u : Int) (_hv : wf64 v ∧ wf64 u) (m : Int) (_hm : wf64 m) (w : World) (hf : Flows w) :
    Calls Tryd.prog 4 #[.agg #[.int .i64 v, .int .i64 u], .int .i64 m] w fun e w' => e = .returned (.bool true) ∧ Below w.heap.size w w' := by
  obtain ⟨x0, x1, x2, hx⟩ : ∃ (x0 : Int) (x1 : Int) (x2 : Bool), volOf v u m = .tuple #[.int .i64 x0, .int .i64 x1, .bool x2] := by
    unfold volOf; split <;> exact ⟨_, _, _, rfl⟩
  have cs := VolumeIn_spec v u m
  have ci := VolumeIn_impl v u m
  rw [hx] at cs ci
  have Cs := Lib.hid cs
  have Ci := Lib.hid ci
  clear hx cs ci
  go_enter Tryd.func4, Tryd.ntmps4
  go_wp2_with fail
  refine (toAmount_any _ _ _).mono ?_
  rintro e w1 ⟨rfl, b1⟩
  have c1 := b1
  have hc := keeps c1
  go_wp2_with fail
  refine (Cs.out _).mono ?_
  rintro e w2 ⟨rfl, b2⟩
  have c2 := also c1 b2
  clear hc
  have hc := keeps c2
  go_wp2_with fail
  refine (toAmount_any _ _ _).mono ?_
  rintro e w3 ⟨rfl, b3⟩
  have c3 := also c2 b3
  clear hc
  have hc := keeps c3
  go_wp2_with fail
  refine (Ci.out _ (hf.later (below_step (below_a1 _ _) c3 (by simp <;> omega)))).mono ?_
  rintro e w4 ⟨rfl, b4⟩
  have c4 := also c3 b4
  clear hc
  have hc := keeps c4
  clear hc
  go_wp2_with fail
  all_goals go_ret
  all_goals exact ⟨rfl, (below_step (below_a1 _ _) c4 (by simp <;> omega))⟩

set_option maxRecDepth 100000 in
set_option maxHeartbeats 1000000 in
theorem w_FnExactAddAmounts (v u : Int) (_hv : wf64 v ∧ wf64 u) (x y : Int) (_hx : wf64 x ∧ wf64 y) (k : Int) (_hk : wf64 k) (w : World) (hf : Flows w) :
    Calls Tryd.prog 5 #[.agg #[.int .i64 v, .int .i64 u], .agg #[.int .i64 x, .int .i64 y], .int .i64 k] w fun e w' => e = .returned (.bool true) ∧ Below w.heap.size w w' := by
  obtain ⟨x0, x1, x2, hx⟩ : ∃ (x0 : Int) (x1 : Int) (x2 : Bool), addOf v u x y k = .tuple #[.int .i64 x0, .int .i64 x1, .bool x2] := by
    unfold addOf; split <;> exact ⟨_, _, _, rfl⟩
  have cs := AddAmounts_spec v u x y k
  have ci := AddAmounts_impl v u x y k
  rw [hx] at cs ci
  have Cs := Lib.hid cs
  have Ci := Lib.hid ci
  have Ta := Lib.hid (toAmount_any v u)
  have Tb := Lib.hid (toAmount_any x y)
  clear hx cs ci
  obtain ⟨W, hW⟩ : ∃ W, W = (w.alloc (.cells #[.int .i64 v, .int .i64 u] 23)).alloc (.cells #[.int .i64 x, .int .i64 y] 23) := ⟨_, rfl⟩
  have d0 : W.cell? ⟨w.heap.size, 0, none⟩ = some (.int .i64 v) := by rw [hW]; simp [go_sem]
  have d1 : W.cell? ⟨w.heap.size, 1, none⟩ = some (.int .i64 u) := by rw [hW]; simp [go_sem]
  have d2 : W.cell? ⟨w.heap.size + 1, 0, none⟩ = some (.int .i64 x) := by rw [hW]; simp [go_sem]
  have d3 : W.cell? ⟨w.heap.size + 1, 1, none⟩ = some (.int .i64 y) := by rw [hW]; simp [go_sem]
  have bW : Below w.heap.size w W := by rw [hW]; exact below_a2 _ _ _
  have HW := Lib.hid hW
  have hf2 := Lib.hid (hf.later bW)
  clear hW
  go_enter Tryd.func5, Tryd.ntmps5
  go_wp2_with fail
  rw [← HW.out]
  go_region_held3 (fun w' => w'.cell? ⟨w.heap.size, 0, none⟩ = some (.int .i64 v) ∧ w'.cell? ⟨w.heap.size, 1, none⟩ = some (.int .i64 u) ∧ w'.cell? ⟨w.heap.size + 1, 0, none⟩ = some (.int .i64 x) ∧ w'.cell? ⟨w.heap.size + 1, 1, none⟩ = some (.int .i64 y) ∧ Below W.heap.size W w') (first | (go_split_ands; refine held4 d0 d1 d2 d3 ?_; first | exact (Below.refl _ _).drew | exact Below.drew (by assumption) | exact also (by assumption) (by assumption))) (first | (go_at_call 13; (first | (with_reducible refine (Ta.out _).mono ?_) | (with_reducible refine (Tb.out _).mono ?_)); rintro e w3 ⟨rfl, b3⟩) | (go_at_call 17; (with_reducible refine (Cs.out _).mono ?_); rintro e w4 ⟨rfl, b4⟩))
  rename_i hS
  obtain ⟨f0, f1, f2, f3, c3⟩ := hS
  go_wp2_with fail
  go_region_held3 (fun w' => w'.cell? ⟨w.heap.size, 0, none⟩ = some (.int .i64 v) ∧ w'.cell? ⟨w.heap.size, 1, none⟩ = some (.int .i64 u) ∧ w'.cell? ⟨w.heap.size + 1, 0, none⟩ = some (.int .i64 x) ∧ w'.cell? ⟨w.heap.size + 1, 1, none⟩ = some (.int .i64 y) ∧ Below W.heap.size W w') (first | (go_split_ands; refine held4 d0 d1 d2 d3 ?_; first | exact (Below.refl _ _).drew | exact Below.drew (by assumption) | exact also (by assumption) (by assumption))) (first | (go_at_call 13; (first | (with_reducible refine (Ta.out _).mono ?_) | (with_reducible refine (Tb.out _).mono ?_)); rintro e w3 ⟨rfl, b3⟩) | (go_at_call 18; (with_reducible refine (Ci.out _ (hf2.out.later (by go_split_ands; assumption))).mono ?_); rintro e w4 ⟨rfl, b4⟩))
  rename_i hS
  have c5 := hS.2.2.2.2
  clear hS
  go_wp2_with fail
  all_goals go_ret
  all_goals exact ⟨rfl, below_step bW c5 (Nat.le_refl _)⟩

set_option maxRecDepth 100000 in
set_option maxHeartbeats 1000000 in
theorem w_FnExactCompareAmounts (v u : Int) (_hv : wf64 v ∧ wf64 u) (x y : Int) (_hx : wf64 x ∧ wf64 y) (w : World) (hf : Flows w) :
    Calls Tryd.prog 6 #[.agg #[.int .i64 v, .int .i64 u], .agg #[.int .i64 x, .int .i64 y]] w fun e w' => e = .returned (.bool true) ∧ Below w.heap.size w w' := by
  obtain ⟨x0, x1, hx⟩ : ∃ (x0 : Int) (x1 : Bool), cmpOf v u x y = .tuple #[.int .i64 x0, .bool x1] := by
    unfold cmpOf; split <;> exact ⟨_, _, rfl⟩
  have cs := CompareAmounts_spec v u x y
  have ci := CompareAmounts_impl v u x y
  rw [hx] at cs ci
  have Cs := Lib.hid cs
  have Ci := Lib.hid ci
  have Ta := Lib.hid (toAmount_any v u)
  have Tb := Lib.hid (toAmount_any x y)
  clear hx cs ci
  obtain ⟨W, hW⟩ : ∃ W, W = (w.alloc (.cells #[.int .i64 v, .int .i64 u] 23)).alloc (.cells #[.int .i64 x, .int .i64 y] 23) := ⟨_, rfl⟩
  have d0 : W.cell? ⟨w.heap.size, 0, none⟩ = some (.int .i64 v) := by rw [hW]; simp [go_sem]
  have d1 : W.cell? ⟨w.heap.size, 1, none⟩ = some (.int .i64 u) := by rw [hW]; simp [go_sem]
  have d2 : W.cell? ⟨w.heap.size + 1, 0, none⟩ = some (.int .i64 x) := by rw [hW]; simp [go_sem]
  have d3 : W.cell? ⟨w.heap.size + 1, 1, none⟩ = some (.int .i64 y) := by rw [hW]; simp [go_sem]
  have bW : Below w.heap.size w W := by rw [hW]; exact below_a2 _ _ _
  have HW := Lib.hid hW
  have hf2 := Lib.hid (hf.later bW)
  clear hW
  go_enter Tryd.func6, Tryd.ntmps6
  go_wp2_with fail
  rw [← HW.out]
  go_region_held3 (fun w' => w'.cell? ⟨w.heap.size, 0, none⟩ = some (.int .i64 v) ∧ w'.cell? ⟨w.heap.size, 1, none⟩ = some (.int .i64 u) ∧ w'.cell? ⟨w.heap.size + 1, 0, none⟩ = some (.int .i64 x) ∧ w'.cell? ⟨w.heap.size + 1, 1, none⟩ = some (.int .i64 y) ∧ Below W.heap.size W w') (first | (go_split_ands; refine held4 d0 d1 d2 d3 ?_; first | exact (Below.refl _ _).drew | exact Below.drew (by assumption) | exact also (by assumption) (by assumption))) (first | (go_at_call 13; (first | (with_reducible refine (Ta.out _).mono ?_) | (with_reducible refine (Tb.out _).mono ?_)); rintro e w3 ⟨rfl, b3⟩) | (go_at_call 19; (with_reducible refine (Cs.out _).mono ?_); rintro e w4 ⟨rfl, b4⟩))
  rename_i hS
  obtain ⟨f0, f1, f2, f3, c3⟩ := hS
  go_wp2_with fail
  go_region_held3 (fun w' => w'.cell? ⟨w.heap.size, 0, none⟩ = some (.int .i64 v) ∧ w'.cell? ⟨w.heap.size, 1, none⟩ = some (.int .i64 u) ∧ w'.cell? ⟨w.heap.size + 1, 0, none⟩ = some (.int .i64 x) ∧ w'.cell? ⟨w.heap.size + 1, 1, none⟩ = some (.int .i64 y) ∧ Below W.heap.size W w') (first | (go_split_ands; refine held4 d0 d1 d2 d3 ?_; first | exact (Below.refl _ _).drew | exact Below.drew (by assumption) | exact also (by assumption) (by assumption))) (first | (go_at_call 13; (first | (with_reducible refine (Ta.out _).mono ?_) | (with_reducible refine (Tb.out _).mono ?_)); rintro e w3 ⟨rfl, b3⟩) | (go_at_call 20; (with_reducible refine (Ci.out _ (hf2.out.later (by go_split_ands; assumption))).mono ?_); rintro e w4 ⟨rfl, b4⟩))
  rename_i hS
  have c5 := hS.2.2.2.2
  clear hS
  go_wp2_with fail
  all_goals go_ret
  all_goals exact ⟨rfl, below_step bW c5 (Nat.le_refl _)⟩

end Go.Proofs.YtlkphjlabmnjiaaDoor
