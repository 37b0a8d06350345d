/- The reference's searches of valves. -/
import Derived.Test.YtnfmdkbelbppdaaFindV
namespace Go.Proofs.Ytnfmdkbelbppdaa
open Go.RowKit
set_option linter.unusedVariables false

theorem any_no {vs : List Vv} {q : Vv → Bool} {n k : Nat} (hl : vs.length = n) (h : ∀ j z, j < k → vs[j]? = some z → q z = false) (hk : n ≤ k) : vs.any q = false := by
  rw [← idxV_pos, idxV_none (fun j z hj => h j z (by omega))]; rfl
theorem any_yes {vs : List Vv} {q : Vv → Bool} {k : Nat} {x : Vv} (hx : vs[k]? = some x) (h : q x = true) : vs.any q = true := List.any_eq_true.2 ⟨x, List.mem_of_getElem? hx, h⟩

set_option maxRecDepth 100000 in
set_option maxHeartbeats 1000000 in
theorem l4Find_any (A : Option Addr) (n c : Nat) (vs : List Vv) (id : Int) (w : World) (ha : Rd w 4 A n (valvesV vs)) (hn : n ≤ 1048576) :
    Calls Try.prog 81 #[.slice A n c, .int .i64 id] w fun e w' => e = .returned (.int .i64 (idxV (fun v : Vv => decide (v.id = id)) vs)) ∧ Below w.heap.size w w' := by
  have hl := rd_valves_len ha
  go_enter Try.func81, Try.ntmps81
  refine wp_seq_k (fun K1 h1 => ?_)
  refine region_quiet [(0, false)] rfl ?_
  refine sq (v := .int .i64 0) rfl (r_assign rfl rfl) rfl rfl rfl ?_
  refine sch_end ?_
  simp only [List.set_cons_zero, List.set_cons_succ]
  refine h1 _ _ ?_
  refine wp_seq_k (fun K2 h2 => ?_)
  refine wp_seq_k (fun K3 h3 => ?_)
  refine region_quiet [(0, false)] rfl ?_
  refine sq (v := .int .i64 0) rfl (r_assign rfl rfl) rfl rfl rfl ?_
  refine sch_end ?_
  simp only [List.set_cons_zero, List.set_cons_succ]
  refine h3 _ _ ?_
  refine wp_block ?_
  refine loopK (fun am0 aa0 wl0 => ∃ (k : Nat) (u0_6 u0_7 u0_8 u0_9 u0_10 u0_11 u0_12 u0_13 u0_14 u0_15 u0_16 u0_17 u0_18 u0_19 : Value), aa0 = ⟨[.slice A n c, .int .i64 id, undef, undef, .int .i64 0, .int .i64 ((k : Nat) : Int), u0_6, u0_7, u0_8, u0_9, u0_10, u0_11, u0_12, u0_13, u0_14, u0_15, u0_16, u0_17, u0_18, u0_19].toArray, []⟩ ∧ (am0 = n - k) ∧ (k ≤ n) ∧ (∀ j z, j < k → vs[j]? = some z → (fun v : Vv => decide (v.id = id)) z = false) ∧ (Below w.heap.size w wl0)) (n - 0) ?_ ?_
  · exact ⟨0, _, _, _, _, _, _, _, _, _, _, _, _, _, _, rfl, rfl, (Nat.zero_le _), (fun j z hj => absurd hj (by omega)), (Below.refl _ _)⟩
  rintro am0 aa0 wl0 K4 h4 ⟨k, u0_6, u0_7, u0_8, u0_9, u0_10, u0_11, u0_12, u0_13, u0_14, u0_15, u0_16, u0_17, u0_18, u0_19, rfl, rfl, hk, hno, c1⟩
  refine wp_seq_k (fun K5 h5 => ?_)
  refine wp_seq_k (fun K6 h6 => ?_)
  refine region_quiet [(0, false), (1, false), (2, false), (3, false)] rfl ?_
  refine sq (v := .int .i64 ((k : Nat) : Int)) rfl (r_move rfl rfl) rfl rfl rfl ?_
  refine sq (v := .slice A n c) rfl (r_move rfl rfl) rfl rfl rfl ?_
  refine sq (v := .int .i64 ((n : Nat) : Int)) rfl (r_len rfl rfl (by kernel_rfl)) rfl rfl rfl ?_
  by_cases q2 : (((k : Nat) : Int) : Int) < (((n : Nat) : Int) : Int)
  · refine sq (v := .bool true) rfl (r_lss rfl rfl rfl (decide_eq_true q2)) rfl rfl rfl ?_
    refine sch_end ?_
    simp only [List.set_cons_zero, List.set_cons_succ]
    refine h6 _ _ ?_
    refine wp_cond_true rfl ?_
    refine wp_skip ?_
    refine h5 _ _ ?_
    refine wp_seq_k (fun K7 h7 => ?_)
    refine wp_block ?_
    refine wp_seq_k (fun K8 h8 => ?_)
    refine region_quiet [(0, false), (1, false), (2, false), (3, false), (4, false), (5, false), (6, false)] rfl ?_
    refine sq (v := .slice A n c) rfl (r_move rfl rfl) rfl rfl rfl ?_
    refine sq (v := .int .i64 ((k : Nat) : Int)) rfl (r_move rfl rfl) rfl rfl rfl ?_
    obtain ⟨x3, hx4⟩ := get_of (zs := vs) (k := k) (by have := hl; omega)
    obtain ⟨b5, o6, hA7, hb8, hc9, hc10, hc11, hc12⟩ := Rd.elValve ha hx4
    refine sq (v := .pointer (some ⟨b5, o6 + k * 4, none⟩)) rfl (r_idx (k := k) rfl rfl hA7 rfl (by kernel_rfl) (by have := hl; omega)) rfl rfl rfl ?_
    refine sq (v := .pointer (some ⟨b5, o6 + k * 4, none⟩)) rfl (r_field0 rfl rfl (by kernel_rfl)) rfl rfl rfl ?_
    refine sq (v := .int .i64 x3.id) rfl (r_load rfl rfl (by kernel_rfl) (eqS (later c1 hc9))) rfl rfl rfl ?_
    simp only [List.set_cons_zero, List.set_cons_succ]
    refine sq (v := .int .i64 id) rfl (r_move rfl rfl) rfl rfl rfl ?_
    by_cases q13 : (x3.id : Int) = (id : Int)
    · refine sq (v := .bool true) rfl (r_eql rfl rfl rfl (decide_eq_true q13)) rfl rfl rfl ?_
      refine sch_end ?_
      simp only [List.set_cons_zero, List.set_cons_succ]
      refine h8 _ _ ?_
      refine wp_cond_true rfl ?_
      refine wp_seq_k (fun K9 h9 => ?_)
      refine region_quiet [(0, false), (1, false)] rfl ?_
      refine sq (v := .int .i64 ((k : Nat) : Int)) rfl (r_move rfl rfl) rfl rfl rfl ?_
      refine sq (v := .int .i64 ((k : Nat) : Int)) rfl (r_assign rfl rfl) rfl rfl rfl ?_
      refine sch_end ?_
      simp only [List.set_cons_zero, List.set_cons_succ]
      refine h9 _ _ ?_
      refine wp_ret ?_
      try simp only [Exit.then, Exit.inBlock]
      refine ret1 rfl rfl ?_
      exact ⟨by rw [idxV_at (q := fun v : Vv => decide (v.id = id)) hno hx4 (by simp_all)]; rfl, c1⟩
    · refine sq (v := .bool false) rfl (r_eql rfl rfl rfl (decide_eq_false q13)) rfl rfl rfl ?_
      refine sch_end ?_
      simp only [List.set_cons_zero, List.set_cons_succ]
      refine h8 _ _ ?_
      refine wp_cond_false rfl ?_
      refine wp_skip ?_
      refine h7 _ _ ?_
      refine region_quiet [(0, false), (1, false), (2, false)] rfl ?_
      refine sq (v := .int .i64 ((k : Nat) : Int)) rfl (r_move rfl rfl) rfl rfl rfl ?_
      refine sq (v := .int .i64 ((k + 1 : Nat) : Int)) rfl (r_add (z := ((k + 1 : Nat) : Int)) rfl rfl rfl (by omega) (by omega)) rfl rfl rfl ?_
      refine sq (v := .int .i64 ((k + 1 : Nat) : Int)) rfl (r_assign rfl rfl) rfl rfl rfl ?_
      refine sch_end ?_
      simp only [List.set_cons_zero, List.set_cons_succ]
      exact h4 _ _ _ (by omega : (n - (k + 1)) < _) ⟨k + 1, _, _, _, _, _, _, _, _, _, _, _, _, _, _, rfl, rfl, (by omega), (upto_succ (Q := fun z => (fun v : Vv => decide (v.id = id)) z = false) hno hx4 (by simp_all)), c1⟩
  · refine sq (v := .bool false) rfl (r_lss rfl rfl rfl (decide_eq_false q2)) rfl rfl rfl ?_
    refine sch_end ?_
    simp only [List.set_cons_zero, List.set_cons_succ]
    refine h6 _ _ ?_
    refine wp_cond_false rfl ?_
    refine wp_exit ?_
    refine h2 _ _ ?_
    refine wp_seq_k (fun K10 h10 => ?_)
    refine region_quiet [(0, false)] rfl ?_
    refine sq (v := .int .i64 (-1)) rfl (r_assign rfl rfl) rfl rfl rfl ?_
    refine sch_end ?_
    simp only [List.set_cons_zero, List.set_cons_succ]
    refine h10 _ _ ?_
    refine wp_ret ?_
    try simp only [Exit.then]
    refine ret1 rfl rfl ?_
    exact ⟨by rw [idxV_none (q := fun v : Vv => decide (v.id = id)) (fun j z hj => hno j z (by omega))]; rfl, c1⟩

set_option maxRecDepth 100000 in
set_option maxHeartbeats 1000000 in
theorem l4Blocked_true (A : Option Addr) (n c : Nat) (vs : List Vv) (pipe node : Int) (w : World) (ha : Rd w 4 A n (valvesV vs)) (hn : n ≤ 1048576) :
    Calls Try.prog 135 #[.slice A n c, .int .i64 pipe, .int .i64 node, .bool true] w fun e w' => e = .returned (.bool (blocked vs pipe node true)) ∧ Below w.heap.size w w' := by
  have hl := rd_valves_len ha
  go_enter Try.func135, Try.ntmps135
  refine wp_seq_k (fun K1 h1 => ?_)
  refine region_quiet [(0, false)] rfl ?_
  refine sq (v := .bool false) rfl (r_assign rfl rfl) rfl rfl rfl ?_
  refine sch_end ?_
  simp only [List.set_cons_zero, List.set_cons_succ]
  refine h1 _ _ ?_
  refine wp_seq_k (fun K2 h2 => ?_)
  refine wp_seq_k (fun K3 h3 => ?_)
  refine region_quiet [(0, false)] rfl ?_
  refine sq (v := .int .i64 0) rfl (r_assign rfl rfl) rfl rfl rfl ?_
  refine sch_end ?_
  simp only [List.set_cons_zero, List.set_cons_succ]
  refine h3 _ _ ?_
  refine wp_block ?_
  refine loopK (fun am0 aa0 wl0 => ∃ (k : Nat) (u0_10 u0_11 u0_12 u0_13 u0_14 u0_15 u0_16 u0_17 u0_18 u0_19 u0_20 u0_21 u0_22 u0_23 u0_24 u0_25 u0_26 u0_27 u0_28 u0_29 u0_30 u0_31 u0_32 u0_33 u0_34 u0_35 u0_36 u0_37 u0_38 u0_39 u0_40 u0_41 u0_42 : Value), aa0 = ⟨[.slice A n c, .int .i64 pipe, .int .i64 node, .bool true, undef, undef, undef, undef, .bool false, .int .i64 ((k : Nat) : Int), u0_10, u0_11, u0_12, u0_13, u0_14, u0_15, u0_16, u0_17, u0_18, u0_19, u0_20, u0_21, u0_22, u0_23, u0_24, u0_25, u0_26, u0_27, u0_28, u0_29, u0_30, u0_31, u0_32, u0_33, u0_34, u0_35, u0_36, u0_37, u0_38, u0_39, u0_40, u0_41, u0_42].toArray, []⟩ ∧ (am0 = n - k) ∧ (k ≤ n) ∧ (∀ j z, j < k → vs[j]? = some z → (fun u : Vv => decide (u.pipe = pipe) && decide (u.node = node) && (!true || u.shut)) z = false) ∧ (Below w.heap.size w wl0)) (n - 0) ?_ ?_
  · exact ⟨0, _, _, _, _, _, _, _, _, _, _, _, _, _, _, _, _, _, _, _, _, _, _, _, _, _, _, _, _, _, _, _, _, _, rfl, rfl, (Nat.zero_le _), (fun j z hj => absurd hj (by omega)), (Below.refl _ _)⟩
  rintro am0 aa0 wl0 K4 h4 ⟨k, u0_10, u0_11, u0_12, u0_13, u0_14, u0_15, u0_16, u0_17, u0_18, u0_19, u0_20, u0_21, u0_22, u0_23, u0_24, u0_25, u0_26, u0_27, u0_28, u0_29, u0_30, u0_31, u0_32, u0_33, u0_34, u0_35, u0_36, u0_37, u0_38, u0_39, u0_40, u0_41, u0_42, rfl, rfl, hk, hno, c1⟩
  refine wp_seq_k (fun K5 h5 => ?_)
  refine wp_seq_k (fun K6 h6 => ?_)
  refine region_quiet [(0, false), (1, false), (2, false), (3, false)] rfl ?_
  refine sq (v := .int .i64 ((k : Nat) : Int)) rfl (r_move rfl rfl) rfl rfl rfl ?_
  refine sq (v := .slice A n c) rfl (r_move rfl rfl) rfl rfl rfl ?_
  refine sq (v := .int .i64 ((n : Nat) : Int)) rfl (r_len rfl rfl (by kernel_rfl)) rfl rfl rfl ?_
  by_cases q2 : (((k : Nat) : Int) : Int) < (((n : Nat) : Int) : Int)
  · refine sq (v := .bool true) rfl (r_lss rfl rfl rfl (decide_eq_true q2)) rfl rfl rfl ?_
    refine sch_end ?_
    simp only [List.set_cons_zero, List.set_cons_succ]
    refine h6 _ _ ?_
    refine wp_cond_true rfl ?_
    refine wp_skip ?_
    refine h5 _ _ ?_
    refine wp_seq_k (fun K7 h7 => ?_)
    refine wp_block ?_
    refine wp_seq_k (fun K8 h8 => ?_)
    refine region_quiet [(0, false), (1, false), (2, false), (3, false), (4, false), (5, false), (6, false), (7, false), (8, false), (9, false), (10, false), (11, false), (12, false), (13, false), (14, false), (15, false), (16, false), (17, false), (18, false), (19, false), (20, false), (21, false), (22, false), (23, false), (24, false), (25, false), (26, false)] rfl ?_
    refine sq (v := .slice A n c) rfl (r_move rfl rfl) rfl rfl rfl ?_
    refine sq (v := .int .i64 ((k : Nat) : Int)) rfl (r_move rfl rfl) rfl rfl rfl ?_
    obtain ⟨x3, hx4⟩ := get_of (zs := vs) (k := k) (by have := hl; omega)
    obtain ⟨b5, o6, hA7, hb8, hc9, hc10, hc11, hc12⟩ := Rd.elValve ha hx4
    refine sq (v := .pointer (some ⟨b5, o6 + k * 4, none⟩)) rfl (r_idx (k := k) rfl rfl hA7 rfl (by kernel_rfl) (by have := hl; omega)) rfl rfl rfl ?_
    refine sq (v := .pointer (some ⟨b5, o6 + k * 4 + 1, none⟩)) rfl (r_field (k := 1) rfl rfl (by kernel_rfl)) rfl rfl rfl ?_
    refine sq (v := .int .i64 x3.pipe) rfl (r_load rfl rfl (by kernel_rfl) (eqS (later c1 hc10))) rfl rfl rfl ?_
    simp only [List.set_cons_zero, List.set_cons_succ]
    refine sq (v := .int .i64 pipe) rfl (r_move rfl rfl) rfl rfl rfl ?_
    by_cases q13 : (x3.pipe : Int) = (pipe : Int)
    · refine sq (v := .bool true) rfl (r_eql rfl rfl rfl (decide_eq_true q13)) rfl rfl rfl ?_
      refine sq (v := .bool true) rfl (r_move rfl rfl) rfl rfl rfl ?_
      refine sq (v := .slice A n c) rfl (r_move rfl rfl) rfl rfl rfl ?_
      refine sq (v := .int .i64 ((k : Nat) : Int)) rfl (r_move rfl rfl) rfl rfl rfl ?_
      simp only [List.set_cons_zero, List.set_cons_succ]
      refine sq (v := .pointer (some ⟨b5, o6 + k * 4, none⟩)) rfl (r_idx (k := k) rfl rfl hA7 rfl (by kernel_rfl) (by have := hl; omega)) rfl rfl rfl ?_
      refine sq (v := .pointer (some ⟨b5, o6 + k * 4 + 2, none⟩)) rfl (r_field (k := 2) rfl rfl (by kernel_rfl)) rfl rfl rfl ?_
      refine sq (v := .int .i64 x3.node) rfl (r_load rfl rfl (by kernel_rfl) (eqS (later c1 hc11))) rfl rfl rfl ?_
      refine sq (v := .int .i64 node) rfl (r_move rfl rfl) rfl rfl rfl ?_
      by_cases q14 : (x3.node : Int) = (node : Int)
      · refine sq (v := .bool true) rfl (r_eql rfl rfl rfl (decide_eq_true q14)) rfl rfl rfl ?_
        simp only [List.set_cons_zero, List.set_cons_succ]
        refine sq (v := .bool true) rfl (r_pick rfl rfl rfl) rfl rfl rfl ?_
        refine sq (v := .bool true) rfl (r_move rfl rfl) rfl rfl rfl ?_
        refine sq (v := .bool true) rfl (r_move rfl rfl) rfl rfl rfl ?_
        refine sq (v := .bool false) rfl (r_not rfl rfl rfl) rfl rfl rfl ?_
        refine sq (v := .bool false) rfl (r_move rfl rfl) rfl rfl rfl ?_
        simp only [List.set_cons_zero, List.set_cons_succ]
        refine sq (v := .slice A n c) rfl (r_move rfl rfl) rfl rfl rfl ?_
        refine sq (v := .int .i64 ((k : Nat) : Int)) rfl (r_move rfl rfl) rfl rfl rfl ?_
        refine sq (v := .pointer (some ⟨b5, o6 + k * 4, none⟩)) rfl (r_idx (k := k) rfl rfl hA7 rfl (by kernel_rfl) (by have := hl; omega)) rfl rfl rfl ?_
        refine sq (v := .pointer (some ⟨b5, o6 + k * 4 + 3, none⟩)) rfl (r_field (k := 3) rfl rfl (by kernel_rfl)) rfl rfl rfl ?_
        refine sq (v := .bool x3.shut) rfl (r_load rfl rfl (by kernel_rfl) (eqS (later c1 hc12))) rfl rfl rfl ?_
        simp only [List.set_cons_zero, List.set_cons_succ]
        refine sq (v := .bool x3.shut) rfl (r_pick rfl rfl rfl) rfl rfl rfl ?_
        refine sq (v := .bool x3.shut) rfl (r_pick rfl rfl rfl) rfl rfl rfl ?_
        refine sch_end ?_
        simp only [List.set_cons_zero, List.set_cons_succ]
        refine h8 _ _ ?_
        rcases Bool.eq_false_or_eq_true x3.shut with q15 | q15
        · rw [q15]
          refine wp_cond_true rfl ?_
          refine wp_seq_k (fun K9 h9 => ?_)
          refine region_quiet [(0, false)] rfl ?_
          refine sq (v := .bool true) rfl (r_assign rfl rfl) rfl rfl rfl ?_
          refine sch_end ?_
          simp only [List.set_cons_zero, List.set_cons_succ]
          refine h9 _ _ ?_
          refine wp_ret ?_
          try simp only [Exit.then, Exit.inBlock]
          refine ret1 rfl rfl ?_
          exact ⟨by unfold blocked; rw [any_yes (q := fun u : Vv => decide (u.pipe = pipe) && decide (u.node = node) && (!true || u.shut)) hx4 (by simp_all)]; rfl, c1⟩
        · rw [q15]
          refine wp_cond_false rfl ?_
          refine wp_skip ?_
          refine h7 _ _ ?_
          refine region_quiet [(0, false), (1, false), (2, false)] rfl ?_
          refine sq (v := .int .i64 ((k : Nat) : Int)) rfl (r_move rfl rfl) rfl rfl rfl ?_
          refine sq (v := .int .i64 ((k + 1 : Nat) : Int)) rfl (r_add (z := ((k + 1 : Nat) : Int)) rfl rfl rfl (by omega) (by omega)) rfl rfl rfl ?_
          refine sq (v := .int .i64 ((k + 1 : Nat) : Int)) rfl (r_assign rfl rfl) rfl rfl rfl ?_
          refine sch_end ?_
          simp only [List.set_cons_zero, List.set_cons_succ]
          exact h4 _ _ _ (by omega : (n - (k + 1)) < _) ⟨k + 1, _, _, _, _, _, _, _, _, _, _, _, _, _, _, _, _, _, _, _, _, _, _, _, _, _, _, _, _, _, _, _, _, _, rfl, rfl, (by omega), (upto_succ (Q := fun z => (fun u : Vv => decide (u.pipe = pipe) && decide (u.node = node) && (!true || u.shut)) z = false) hno hx4 (by simp_all)), c1⟩
      · refine sq (v := .bool false) rfl (r_eql rfl rfl rfl (decide_eq_false q14)) rfl rfl rfl ?_
        simp only [List.set_cons_zero, List.set_cons_succ]
        refine sq (v := .bool false) rfl (r_pick rfl rfl rfl) rfl rfl rfl ?_
        refine sq (v := .bool false) rfl (r_move rfl rfl) rfl rfl rfl ?_
        refine sk rfl rfl rfl rfl rfl ?_
        refine sk rfl rfl rfl rfl rfl ?_
        refine sk rfl rfl rfl rfl rfl ?_
        simp only [List.set_cons_zero, List.set_cons_succ]
        refine sk rfl rfl rfl rfl rfl ?_
        refine sk rfl rfl rfl rfl rfl ?_
        refine sk rfl rfl rfl rfl rfl ?_
        refine sk rfl rfl rfl rfl rfl ?_
        refine sk rfl rfl rfl rfl rfl ?_
        simp only [List.set_cons_zero, List.set_cons_succ]
        refine sk rfl rfl rfl rfl rfl ?_
        refine sq (v := .bool false) rfl (r_pick rfl rfl rfl) rfl rfl rfl ?_
        refine sch_end ?_
        simp only [List.set_cons_zero, List.set_cons_succ]
        refine h8 _ _ ?_
        refine wp_cond_false rfl ?_
        refine wp_skip ?_
        refine h7 _ _ ?_
        refine region_quiet [(0, false), (1, false), (2, false)] rfl ?_
        refine sq (v := .int .i64 ((k : Nat) : Int)) rfl (r_move rfl rfl) rfl rfl rfl ?_
        refine sq (v := .int .i64 ((k + 1 : Nat) : Int)) rfl (r_add (z := ((k + 1 : Nat) : Int)) rfl rfl rfl (by omega) (by omega)) rfl rfl rfl ?_
        refine sq (v := .int .i64 ((k + 1 : Nat) : Int)) rfl (r_assign rfl rfl) rfl rfl rfl ?_
        refine sch_end ?_
        simp only [List.set_cons_zero, List.set_cons_succ]
        exact h4 _ _ _ (by omega : (n - (k + 1)) < _) ⟨k + 1, _, _, _, _, _, _, _, _, _, _, _, _, _, _, _, _, _, _, _, _, _, _, _, _, _, _, _, _, _, _, _, _, _, rfl, rfl, (by omega), (upto_succ (Q := fun z => (fun u : Vv => decide (u.pipe = pipe) && decide (u.node = node) && (!true || u.shut)) z = false) hno hx4 (by simp_all)), c1⟩
    · refine sq (v := .bool false) rfl (r_eql rfl rfl rfl (decide_eq_false q13)) rfl rfl rfl ?_
      refine sq (v := .bool false) rfl (r_move rfl rfl) rfl rfl rfl ?_
      refine sk rfl rfl rfl rfl rfl ?_
      refine sk rfl rfl rfl rfl rfl ?_
      simp only [List.set_cons_zero, List.set_cons_succ]
      refine sk rfl rfl rfl rfl rfl ?_
      refine sk rfl rfl rfl rfl rfl ?_
      refine sk rfl rfl rfl rfl rfl ?_
      refine sk rfl rfl rfl rfl rfl ?_
      refine sk rfl rfl rfl rfl rfl ?_
      simp only [List.set_cons_zero, List.set_cons_succ]
      refine sq (v := .bool false) rfl (r_pick rfl rfl rfl) rfl rfl rfl ?_
      refine sq (v := .bool false) rfl (r_move rfl rfl) rfl rfl rfl ?_
      refine sk rfl rfl rfl rfl rfl ?_
      refine sk rfl rfl rfl rfl rfl ?_
      refine sk rfl rfl rfl rfl rfl ?_
      simp only [List.set_cons_zero, List.set_cons_succ]
      refine sk rfl rfl rfl rfl rfl ?_
      refine sk rfl rfl rfl rfl rfl ?_
      refine sk rfl rfl rfl rfl rfl ?_
      refine sk rfl rfl rfl rfl rfl ?_
      refine sk rfl rfl rfl rfl rfl ?_
      simp only [List.set_cons_zero, List.set_cons_succ]
      refine sk rfl rfl rfl rfl rfl ?_
      refine sq (v := .bool false) rfl (r_pick rfl rfl rfl) rfl rfl rfl ?_
      refine sch_end ?_
      simp only [List.set_cons_zero, List.set_cons_succ]
      refine h8 _ _ ?_
      refine wp_cond_false rfl ?_
      refine wp_skip ?_
      refine h7 _ _ ?_
      refine region_quiet [(0, false), (1, false), (2, false)] rfl ?_
      refine sq (v := .int .i64 ((k : Nat) : Int)) rfl (r_move rfl rfl) rfl rfl rfl ?_
      refine sq (v := .int .i64 ((k + 1 : Nat) : Int)) rfl (r_add (z := ((k + 1 : Nat) : Int)) rfl rfl rfl (by omega) (by omega)) rfl rfl rfl ?_
      refine sq (v := .int .i64 ((k + 1 : Nat) : Int)) rfl (r_assign rfl rfl) rfl rfl rfl ?_
      refine sch_end ?_
      simp only [List.set_cons_zero, List.set_cons_succ]
      exact h4 _ _ _ (by omega : (n - (k + 1)) < _) ⟨k + 1, _, _, _, _, _, _, _, _, _, _, _, _, _, _, _, _, _, _, _, _, _, _, _, _, _, _, _, _, _, _, _, _, _, rfl, rfl, (by omega), (upto_succ (Q := fun z => (fun u : Vv => decide (u.pipe = pipe) && decide (u.node = node) && (!true || u.shut)) z = false) hno hx4 (by simp_all)), c1⟩
  · refine sq (v := .bool false) rfl (r_lss rfl rfl rfl (decide_eq_false q2)) rfl rfl rfl ?_
    refine sch_end ?_
    simp only [List.set_cons_zero, List.set_cons_succ]
    refine h6 _ _ ?_
    refine wp_cond_false rfl ?_
    refine wp_exit ?_
    refine h2 _ _ ?_
    refine wp_seq_k (fun K10 h10 => ?_)
    refine region_quiet [(0, false)] rfl ?_
    refine sq (v := .bool false) rfl (r_assign rfl rfl) rfl rfl rfl ?_
    refine sch_end ?_
    simp only [List.set_cons_zero, List.set_cons_succ]
    refine h10 _ _ ?_
    refine wp_ret ?_
    try simp only [Exit.then]
    refine ret1 rfl rfl ?_
    exact ⟨by unfold blocked; rw [any_no (q := fun u : Vv => decide (u.pipe = pipe) && decide (u.node = node) && (!true || u.shut)) hl hno (by omega)]; rfl, c1⟩

set_option maxRecDepth 100000 in
set_option maxHeartbeats 1000000 in
theorem l4Blocked_false (A : Option Addr) (n c : Nat) (vs : List Vv) (pipe node : Int) (w : World) (ha : Rd w 4 A n (valvesV vs)) (hn : n ≤ 1048576) :
    Calls Try.prog 135 #[.slice A n c, .int .i64 pipe, .int .i64 node, .bool false] w fun e w' => e = .returned (.bool (blocked vs pipe node false)) ∧ Below w.heap.size w w' := by
  have hl := rd_valves_len ha
  go_enter Try.func135, Try.ntmps135
  refine wp_seq_k (fun K1 h1 => ?_)
  refine region_quiet [(0, false)] rfl ?_
  refine sq (v := .bool false) rfl (r_assign rfl rfl) rfl rfl rfl ?_
  refine sch_end ?_
  simp only [List.set_cons_zero, List.set_cons_succ]
  refine h1 _ _ ?_
  refine wp_seq_k (fun K2 h2 => ?_)
  refine wp_seq_k (fun K3 h3 => ?_)
  refine region_quiet [(0, false)] rfl ?_
  refine sq (v := .int .i64 0) rfl (r_assign rfl rfl) rfl rfl rfl ?_
  refine sch_end ?_
  simp only [List.set_cons_zero, List.set_cons_succ]
  refine h3 _ _ ?_
  refine wp_block ?_
  refine loopK (fun am0 aa0 wl0 => ∃ (k : Nat) (u0_10 u0_11 u0_12 u0_13 u0_14 u0_15 u0_16 u0_17 u0_18 u0_19 u0_20 u0_21 u0_22 u0_23 u0_24 u0_25 u0_26 u0_27 u0_28 u0_29 u0_30 u0_31 u0_32 u0_33 u0_34 u0_35 u0_36 u0_37 u0_38 u0_39 u0_40 u0_41 u0_42 : Value), aa0 = ⟨[.slice A n c, .int .i64 pipe, .int .i64 node, .bool false, undef, undef, undef, undef, .bool false, .int .i64 ((k : Nat) : Int), u0_10, u0_11, u0_12, u0_13, u0_14, u0_15, u0_16, u0_17, u0_18, u0_19, u0_20, u0_21, u0_22, u0_23, u0_24, u0_25, u0_26, u0_27, u0_28, u0_29, u0_30, u0_31, u0_32, u0_33, u0_34, u0_35, u0_36, u0_37, u0_38, u0_39, u0_40, u0_41, u0_42].toArray, []⟩ ∧ (am0 = n - k) ∧ (k ≤ n) ∧ (∀ j z, j < k → vs[j]? = some z → (fun u : Vv => decide (u.pipe = pipe) && decide (u.node = node) && (!false || u.shut)) z = false) ∧ (Below w.heap.size w wl0)) (n - 0) ?_ ?_
  · exact ⟨0, _, _, _, _, _, _, _, _, _, _, _, _, _, _, _, _, _, _, _, _, _, _, _, _, _, _, _, _, _, _, _, _, _, rfl, rfl, (Nat.zero_le _), (fun j z hj => absurd hj (by omega)), (Below.refl _ _)⟩
  rintro am0 aa0 wl0 K4 h4 ⟨k, u0_10, u0_11, u0_12, u0_13, u0_14, u0_15, u0_16, u0_17, u0_18, u0_19, u0_20, u0_21, u0_22, u0_23, u0_24, u0_25, u0_26, u0_27, u0_28, u0_29, u0_30, u0_31, u0_32, u0_33, u0_34, u0_35, u0_36, u0_37, u0_38, u0_39, u0_40, u0_41, u0_42, rfl, rfl, hk, hno, c1⟩
  refine wp_seq_k (fun K5 h5 => ?_)
  refine wp_seq_k (fun K6 h6 => ?_)
  refine region_quiet [(0, false), (1, false), (2, false), (3, false)] rfl ?_
  refine sq (v := .int .i64 ((k : Nat) : Int)) rfl (r_move rfl rfl) rfl rfl rfl ?_
  refine sq (v := .slice A n c) rfl (r_move rfl rfl) rfl rfl rfl ?_
  refine sq (v := .int .i64 ((n : Nat) : Int)) rfl (r_len rfl rfl (by kernel_rfl)) rfl rfl rfl ?_
  by_cases q2 : (((k : Nat) : Int) : Int) < (((n : Nat) : Int) : Int)
  · refine sq (v := .bool true) rfl (r_lss rfl rfl rfl (decide_eq_true q2)) rfl rfl rfl ?_
    refine sch_end ?_
    simp only [List.set_cons_zero, List.set_cons_succ]
    refine h6 _ _ ?_
    refine wp_cond_true rfl ?_
    refine wp_skip ?_
    refine h5 _ _ ?_
    refine wp_seq_k (fun K7 h7 => ?_)
    refine wp_block ?_
    refine wp_seq_k (fun K8 h8 => ?_)
    refine region_quiet [(0, false), (1, false), (2, false), (3, false), (4, false), (5, false), (6, false), (7, false), (8, false), (9, false), (10, false), (11, false), (12, false), (13, false), (14, false), (15, false), (16, false), (17, false), (18, false), (19, false), (20, false), (21, false), (22, false), (23, false), (24, false), (25, false), (26, false)] rfl ?_
    refine sq (v := .slice A n c) rfl (r_move rfl rfl) rfl rfl rfl ?_
    refine sq (v := .int .i64 ((k : Nat) : Int)) rfl (r_move rfl rfl) rfl rfl rfl ?_
    obtain ⟨x3, hx4⟩ := get_of (zs := vs) (k := k) (by have := hl; omega)
    obtain ⟨b5, o6, hA7, hb8, hc9, hc10, hc11, hc12⟩ := Rd.elValve ha hx4
    refine sq (v := .pointer (some ⟨b5, o6 + k * 4, none⟩)) rfl (r_idx (k := k) rfl rfl hA7 rfl (by kernel_rfl) (by have := hl; omega)) rfl rfl rfl ?_
    refine sq (v := .pointer (some ⟨b5, o6 + k * 4 + 1, none⟩)) rfl (r_field (k := 1) rfl rfl (by kernel_rfl)) rfl rfl rfl ?_
    refine sq (v := .int .i64 x3.pipe) rfl (r_load rfl rfl (by kernel_rfl) (eqS (later c1 hc10))) rfl rfl rfl ?_
    simp only [List.set_cons_zero, List.set_cons_succ]
    refine sq (v := .int .i64 pipe) rfl (r_move rfl rfl) rfl rfl rfl ?_
    by_cases q13 : (x3.pipe : Int) = (pipe : Int)
    · refine sq (v := .bool true) rfl (r_eql rfl rfl rfl (decide_eq_true q13)) rfl rfl rfl ?_
      refine sq (v := .bool true) rfl (r_move rfl rfl) rfl rfl rfl ?_
      refine sq (v := .slice A n c) rfl (r_move rfl rfl) rfl rfl rfl ?_
      refine sq (v := .int .i64 ((k : Nat) : Int)) rfl (r_move rfl rfl) rfl rfl rfl ?_
      simp only [List.set_cons_zero, List.set_cons_succ]
      refine sq (v := .pointer (some ⟨b5, o6 + k * 4, none⟩)) rfl (r_idx (k := k) rfl rfl hA7 rfl (by kernel_rfl) (by have := hl; omega)) rfl rfl rfl ?_
      refine sq (v := .pointer (some ⟨b5, o6 + k * 4 + 2, none⟩)) rfl (r_field (k := 2) rfl rfl (by kernel_rfl)) rfl rfl rfl ?_
      refine sq (v := .int .i64 x3.node) rfl (r_load rfl rfl (by kernel_rfl) (eqS (later c1 hc11))) rfl rfl rfl ?_
      refine sq (v := .int .i64 node) rfl (r_move rfl rfl) rfl rfl rfl ?_
      by_cases q14 : (x3.node : Int) = (node : Int)
      · refine sq (v := .bool true) rfl (r_eql rfl rfl rfl (decide_eq_true q14)) rfl rfl rfl ?_
        simp only [List.set_cons_zero, List.set_cons_succ]
        refine sq (v := .bool true) rfl (r_pick rfl rfl rfl) rfl rfl rfl ?_
        refine sq (v := .bool true) rfl (r_move rfl rfl) rfl rfl rfl ?_
        refine sq (v := .bool false) rfl (r_move rfl rfl) rfl rfl rfl ?_
        refine sq (v := .bool true) rfl (r_not rfl rfl rfl) rfl rfl rfl ?_
        refine sq (v := .bool true) rfl (r_move rfl rfl) rfl rfl rfl ?_
        simp only [List.set_cons_zero, List.set_cons_succ]
        refine sk rfl rfl rfl rfl rfl ?_
        refine sk rfl rfl rfl rfl rfl ?_
        refine sk rfl rfl rfl rfl rfl ?_
        refine sk rfl rfl rfl rfl rfl ?_
        refine sk rfl rfl rfl rfl rfl ?_
        simp only [List.set_cons_zero, List.set_cons_succ]
        refine sq (v := .bool true) rfl (r_pick rfl rfl rfl) rfl rfl rfl ?_
        refine sq (v := .bool true) rfl (r_pick rfl rfl rfl) rfl rfl rfl ?_
        refine sch_end ?_
        simp only [List.set_cons_zero, List.set_cons_succ]
        refine h8 _ _ ?_
        refine wp_cond_true rfl ?_
        refine wp_seq_k (fun K9 h9 => ?_)
        refine region_quiet [(0, false)] rfl ?_
        refine sq (v := .bool true) rfl (r_assign rfl rfl) rfl rfl rfl ?_
        refine sch_end ?_
        simp only [List.set_cons_zero, List.set_cons_succ]
        refine h9 _ _ ?_
        refine wp_ret ?_
        try simp only [Exit.then, Exit.inBlock]
        refine ret1 rfl rfl ?_
        exact ⟨by unfold blocked; rw [any_yes (q := fun u : Vv => decide (u.pipe = pipe) && decide (u.node = node) && (!false || u.shut)) hx4 (by simp_all)]; rfl, c1⟩
      · refine sq (v := .bool false) rfl (r_eql rfl rfl rfl (decide_eq_false q14)) rfl rfl rfl ?_
        simp only [List.set_cons_zero, List.set_cons_succ]
        refine sq (v := .bool false) rfl (r_pick rfl rfl rfl) rfl rfl rfl ?_
        refine sq (v := .bool false) rfl (r_move rfl rfl) rfl rfl rfl ?_
        refine sk rfl rfl rfl rfl rfl ?_
        refine sk rfl rfl rfl rfl rfl ?_
        refine sk rfl rfl rfl rfl rfl ?_
        simp only [List.set_cons_zero, List.set_cons_succ]
        refine sk rfl rfl rfl rfl rfl ?_
        refine sk rfl rfl rfl rfl rfl ?_
        refine sk rfl rfl rfl rfl rfl ?_
        refine sk rfl rfl rfl rfl rfl ?_
        refine sk rfl rfl rfl rfl rfl ?_
        simp only [List.set_cons_zero, List.set_cons_succ]
        refine sk rfl rfl rfl rfl rfl ?_
        refine sq (v := .bool false) rfl (r_pick rfl rfl rfl) rfl rfl rfl ?_
        refine sch_end ?_
        simp only [List.set_cons_zero, List.set_cons_succ]
        refine h8 _ _ ?_
        refine wp_cond_false rfl ?_
        refine wp_skip ?_
        refine h7 _ _ ?_
        refine region_quiet [(0, false), (1, false), (2, false)] rfl ?_
        refine sq (v := .int .i64 ((k : Nat) : Int)) rfl (r_move rfl rfl) rfl rfl rfl ?_
        refine sq (v := .int .i64 ((k + 1 : Nat) : Int)) rfl (r_add (z := ((k + 1 : Nat) : Int)) rfl rfl rfl (by omega) (by omega)) rfl rfl rfl ?_
        refine sq (v := .int .i64 ((k + 1 : Nat) : Int)) rfl (r_assign rfl rfl) rfl rfl rfl ?_
        refine sch_end ?_
        simp only [List.set_cons_zero, List.set_cons_succ]
        exact h4 _ _ _ (by omega : (n - (k + 1)) < _) ⟨k + 1, _, _, _, _, _, _, _, _, _, _, _, _, _, _, _, _, _, _, _, _, _, _, _, _, _, _, _, _, _, _, _, _, _, rfl, rfl, (by omega), (upto_succ (Q := fun z => (fun u : Vv => decide (u.pipe = pipe) && decide (u.node = node) && (!false || u.shut)) z = false) hno hx4 (by simp_all)), c1⟩
    · refine sq (v := .bool false) rfl (r_eql rfl rfl rfl (decide_eq_false q13)) rfl rfl rfl ?_
      refine sq (v := .bool false) rfl (r_move rfl rfl) rfl rfl rfl ?_
      refine sk rfl rfl rfl rfl rfl ?_
      refine sk rfl rfl rfl rfl rfl ?_
      simp only [List.set_cons_zero, List.set_cons_succ]
      refine sk rfl rfl rfl rfl rfl ?_
      refine sk rfl rfl rfl rfl rfl ?_
      refine sk rfl rfl rfl rfl rfl ?_
      refine sk rfl rfl rfl rfl rfl ?_
      refine sk rfl rfl rfl rfl rfl ?_
      simp only [List.set_cons_zero, List.set_cons_succ]
      refine sq (v := .bool false) rfl (r_pick rfl rfl rfl) rfl rfl rfl ?_
      refine sq (v := .bool false) rfl (r_move rfl rfl) rfl rfl rfl ?_
      refine sk rfl rfl rfl rfl rfl ?_
      refine sk rfl rfl rfl rfl rfl ?_
      refine sk rfl rfl rfl rfl rfl ?_
      simp only [List.set_cons_zero, List.set_cons_succ]
      refine sk rfl rfl rfl rfl rfl ?_
      refine sk rfl rfl rfl rfl rfl ?_
      refine sk rfl rfl rfl rfl rfl ?_
      refine sk rfl rfl rfl rfl rfl ?_
      refine sk rfl rfl rfl rfl rfl ?_
      simp only [List.set_cons_zero, List.set_cons_succ]
      refine sk rfl rfl rfl rfl rfl ?_
      refine sq (v := .bool false) rfl (r_pick rfl rfl rfl) rfl rfl rfl ?_
      refine sch_end ?_
      simp only [List.set_cons_zero, List.set_cons_succ]
      refine h8 _ _ ?_
      refine wp_cond_false rfl ?_
      refine wp_skip ?_
      refine h7 _ _ ?_
      refine region_quiet [(0, false), (1, false), (2, false)] rfl ?_
      refine sq (v := .int .i64 ((k : Nat) : Int)) rfl (r_move rfl rfl) rfl rfl rfl ?_
      refine sq (v := .int .i64 ((k + 1 : Nat) : Int)) rfl (r_add (z := ((k + 1 : Nat) : Int)) rfl rfl rfl (by omega) (by omega)) rfl rfl rfl ?_
      refine sq (v := .int .i64 ((k + 1 : Nat) : Int)) rfl (r_assign rfl rfl) rfl rfl rfl ?_
      refine sch_end ?_
      simp only [List.set_cons_zero, List.set_cons_succ]
      exact h4 _ _ _ (by omega : (n - (k + 1)) < _) ⟨k + 1, _, _, _, _, _, _, _, _, _, _, _, _, _, _, _, _, _, _, _, _, _, _, _, _, _, _, _, _, _, _, _, _, _, rfl, rfl, (by omega), (upto_succ (Q := fun z => (fun u : Vv => decide (u.pipe = pipe) && decide (u.node = node) && (!false || u.shut)) z = false) hno hx4 (by simp_all)), c1⟩
  · refine sq (v := .bool false) rfl (r_lss rfl rfl rfl (decide_eq_false q2)) rfl rfl rfl ?_
    refine sch_end ?_
    simp only [List.set_cons_zero, List.set_cons_succ]
    refine h6 _ _ ?_
    refine wp_cond_false rfl ?_
    refine wp_exit ?_
    refine h2 _ _ ?_
    refine wp_seq_k (fun K10 h10 => ?_)
    refine region_quiet [(0, false)] rfl ?_
    refine sq (v := .bool false) rfl (r_assign rfl rfl) rfl rfl rfl ?_
    refine sch_end ?_
    simp only [List.set_cons_zero, List.set_cons_succ]
    refine h10 _ _ ?_
    refine wp_ret ?_
    try simp only [Exit.then]
    refine ret1 rfl rfl ?_
    exact ⟨by unfold blocked; rw [any_no (q := fun u : Vv => decide (u.pipe = pipe) && decide (u.node = node) && (!false || u.shut)) hl hno (by omega)]; rfl, c1⟩

end Go.Proofs.Ytnfmdkbelbppdaa
