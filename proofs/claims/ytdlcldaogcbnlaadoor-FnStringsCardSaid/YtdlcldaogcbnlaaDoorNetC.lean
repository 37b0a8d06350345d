/- Networks and nodes; pipes by number. -/
import Derived.Test.YtdlcldaogcbnlaaDoorNetV
namespace Go.Proofs.YtdlcldaogcbnlaaDoor
open Go.RowKit
set_option linter.unusedVariables false

set_option maxRecDepth 100000 in
set_option maxHeartbeats 1000000 in
theorem hasNode_any (m : Int) (A : Option Addr) (n c : Nat) (ps : List Pp) (v : Int) (w : World) (ha : Rd w 4 A n (pipesV ps)) (hn : n ≤ 1048576) :
    Calls Tryd.prog 62 #[.agg #[.int .i64 m, .slice A n c], .int .i64 v] w fun e w' => e = .returned (.bool (goodN m ps && inB v 1 m)) ∧ Below w.heap.size w w' := by
  go_enter Tryd.func62, Tryd.ntmps62
  refine wp_seq_k (fun K1 h1 => ?_)
  refine region_plain (row := none) [(0, true), (1, false)] rfl ?_
  have s1 := SG.self w none
  refine sn (fun b => .pointer (some ⟨b, 0, none⟩)) #[.int .i64 m, .slice A n c] 24 s1 rfl rfl rfl (fun _ => by kernel_rfl) (fun b2 w3 hb4 k5 x6 s7 => ?_)
  have lo8 : w.heap.size ≤ b2 := by have := ((SG.belowR (Below.refl _ _) s1 (fun kq e => by cases e))).size; omega
  refine sq (v := .bool false) rfl (r_assign rfl rfl) rfl rfl rfl ?_
  refine sch_end ?_
  simp only [List.set_cons_zero, List.set_cons_succ]
  have c9 := (SG.belowR (Below.refl _ _) s7 (fun kq e => by cases e))
  refine h1 _ _ ?_
  refine wp_seq_k (fun K2 h2 => ?_)
  refine region_plain (row := none) [(0, false), (1, true), (2, false), (3, false), (4, false), (5, true), (6, false), (7, false)] rfl ?_
  have s10 := SG.self w3 none
  refine sq (v := .agg #[.int .i64 m, .slice A n c]) rfl (r_load2 rfl rfl (by kernel_rfl) (by kernel_rfl) (sgS (blk_cell (j := 0) x6 rfl) (by simp)) (sgS (blk_cell (j := 1) x6 rfl) (by simp))) rfl rfl rfl ?_
  refine sc (vs := [.agg #[.int .i64 m, .slice A n c]]) rfl rfl rfl (by kernel_rfl) rfl rfl (IsValid_any m A n c ps _ (Rd.kept ha (SG.belowR c9 s10 (fun kq e => by cases e))) (by omega)) ?_
  rintro e w12 ⟨rfl, b11⟩
  have s13 := SG.of_below s10 b11
  refine ⟨_, rfl, s13, ?_⟩
  rcases Bool.eq_false_or_eq_true (goodN m ps) with q14 | q14
  · rw [q14]
    refine sq (v := .bool true) rfl (r_move rfl rfl) rfl rfl rfl ?_
    refine sq (v := .agg #[.int .i64 m, .slice A n c]) rfl (r_load2 rfl rfl (by kernel_rfl) (by kernel_rfl) (sgS (blk_cell (j := 0) x6 rfl) (by simp)) (sgS (blk_cell (j := 1) x6 rfl) (by simp))) rfl rfl rfl ?_
    refine sq (v := .int .i64 v) rfl (r_move rfl rfl) rfl rfl rfl ?_
    simp only [List.set_cons_zero, List.set_cons_succ]
    refine sc (vs := [.agg #[.int .i64 m, .slice A n c], .int .i64 v]) rfl rfl rfl (by kernel_rfl) rfl rfl (has_any m A n c ps v _) ?_
    rintro e w16 ⟨rfl, b15⟩
    have s17 := SG.of_below s13 b15
    refine ⟨_, rfl, s17, ?_⟩
    rcases Bool.eq_false_or_eq_true (inB v 1 m) with q18 | q18
    · rw [q18]
      refine sq (v := .bool true) rfl (r_pick rfl rfl rfl) rfl rfl rfl ?_
      refine sq (v := .bool true) rfl (r_assign rfl rfl) rfl rfl rfl ?_
      refine sch_end ?_
      simp only [List.set_cons_zero, List.set_cons_succ]
      have x6 := SG.blk s17 x6 (by simp)
      have c19 := (SG.belowR c9 s17 (fun kq e => by cases e))
      refine h2 _ _ ?_
      refine wp_ret ?_
      try simp only [Exit.then]
      refine ret1 rfl rfl ?_
      exact ⟨ret_bool (by simp [q14, q18]), c19⟩
    · rw [q18]
      refine sq (v := .bool false) rfl (r_pick rfl rfl rfl) rfl rfl rfl ?_
      refine sq (v := .bool false) rfl (r_assign rfl rfl) rfl rfl rfl ?_
      refine sch_end ?_
      simp only [List.set_cons_zero, List.set_cons_succ]
      have x6 := SG.blk s17 x6 (by simp)
      have c20 := (SG.belowR c9 s17 (fun kq e => by cases e))
      refine h2 _ _ ?_
      refine wp_ret ?_
      try simp only [Exit.then]
      refine ret1 rfl rfl ?_
      exact ⟨ret_bool (by simp [q14, q18]), c20⟩
  · rw [q14]
    refine sq (v := .bool false) rfl (r_move rfl rfl) rfl rfl rfl ?_
    refine sk s13 rfl rfl rfl rfl ?_
    refine sk s13 rfl rfl rfl rfl ?_
    simp only [List.set_cons_zero, List.set_cons_succ]
    refine sk s13 rfl rfl rfl rfl ?_
    refine sq (v := .bool false) rfl (r_pick rfl rfl rfl) rfl rfl rfl ?_
    refine sq (v := .bool false) rfl (r_assign rfl rfl) rfl rfl rfl ?_
    refine sch_end ?_
    simp only [List.set_cons_zero, List.set_cons_succ]
    have x6 := SG.blk s13 x6 (by simp)
    have c21 := (SG.belowR c9 s13 (fun kq e => by cases e))
    refine h2 _ _ ?_
    refine wp_ret ?_
    try simp only [Exit.then]
    refine ret1 rfl rfl ?_
    exact ⟨ret_bool (by simp [q14]), c21⟩

set_option maxRecDepth 100000 in
set_option maxHeartbeats 1000000 in
theorem l2Find_any (m : Int) (A : Option Addr) (n c : Nat) (ps : List Pp) (v : Int) (w : World) (ha : Rd w 4 A n (pipesV ps)) (hn : n ≤ 1048576) :
    Calls Tryd.prog 58 #[.agg #[.int .i64 m, .slice A n c], .int .i64 v] w fun e w' => e = .returned (.int .i64 (findL ps v)) ∧ Below w.heap.size w w' := by
  have hl := rd_pipes_len ha
  go_enter Tryd.func58, Tryd.ntmps58
  refine wp_seq_k (fun K1 h1 => ?_)
  refine region_plain (row := none) [(0, true), (1, false)] rfl ?_
  have s1 := SG.self w none
  refine sn (fun b => .pointer (some ⟨b, 0, none⟩)) #[.int .i64 m, .slice A n c] 24 s1 rfl rfl rfl (fun _ => by kernel_rfl) (fun b2 w3 hb4 k5 x6 s7 => ?_)
  have lo8 : w.heap.size ≤ b2 := by have := ((SG.belowR (Below.refl _ _) s1 (fun kq e => by cases e))).size; omega
  refine sq (v := .int .i64 0) rfl (r_assign rfl rfl) rfl rfl rfl ?_
  refine sch_end ?_
  simp only [List.set_cons_zero, List.set_cons_succ]
  have c9 := (SG.belowR (Below.refl _ _) s7 (fun kq e => by cases e))
  refine h1 _ _ ?_
  refine wp_seq_k (fun K2 h2 => ?_)
  refine wp_seq_k (fun K3 h3 => ?_)
  refine region_quiet [(0, false)] rfl ?_
  refine sq (v := .int .i64 0) rfl (r_assign rfl rfl) rfl rfl rfl ?_
  refine sch_end ?_
  simp only [List.set_cons_zero, List.set_cons_succ]
  refine h3 _ _ ?_
  refine wp_block ?_
  refine loopK (fun am0 aa0 wl0 => ∃ (k : Nat) (u0_6 u0_7 u0_8 u0_9 u0_10 u0_11 u0_12 u0_13 u0_14 u0_15 u0_16 u0_17 u0_18 u0_19 u0_20 u0_21 : Value), aa0 = ⟨[.agg #[.int .i64 m, .slice A n c], .int .i64 v, .pointer (some ⟨b2, 0, none⟩), undef, .int .i64 0, .int .i64 ((k : Nat) : Int), u0_6, u0_7, u0_8, u0_9, u0_10, u0_11, u0_12, u0_13, u0_14, u0_15, u0_16, u0_17, u0_18, u0_19, u0_20, u0_21].toArray, []⟩ ∧ (am0 = n - k) ∧ (k ≤ n) ∧ (∀ j z, j < k → ps[j]? = some z → z.id ≠ v) ∧ (wl0.heap[b2]? = some (.cells #[.int .i64 m, .slice A n c] 24 (0, 0))) ∧ (Below w.heap.size w wl0)) (n - 0) ?_ ?_
  · exact ⟨0, _, _, _, _, _, _, _, _, _, _, _, _, _, _, _, _, rfl, rfl, (Nat.zero_le _), upto_zero, x6, c9⟩
  rintro am0 aa0 wl0 K4 h4 ⟨k, u0_6, u0_7, u0_8, u0_9, u0_10, u0_11, u0_12, u0_13, u0_14, u0_15, u0_16, u0_17, u0_18, u0_19, u0_20, u0_21, rfl, rfl, hk, hok, x6, c10⟩
  refine wp_seq_k (fun K5 h5 => ?_)
  refine wp_seq_k (fun K6 h6 => ?_)
  refine region_quiet [(0, false), (1, false), (2, false), (3, false), (4, false)] rfl ?_
  refine sq (v := .int .i64 ((k : Nat) : Int)) rfl (r_move rfl rfl) rfl rfl rfl ?_
  refine sq (v := .pointer (some ⟨b2, 1, none⟩)) rfl (r_field (k := 1) rfl rfl (by kernel_rfl)) rfl rfl rfl ?_
  refine sq (v := .slice A n c) rfl (r_load rfl rfl (by kernel_rfl) (eqS (blk_cell (j := 1) x6 rfl))) rfl rfl rfl ?_
  refine sq (v := .int .i64 ((n : Nat) : Int)) rfl (r_len rfl rfl (by kernel_rfl)) rfl rfl rfl ?_
  by_cases q11 : (((k : Nat) : Int) : Int) < (((n : Nat) : Int) : Int)
  · refine sq (v := .bool true) rfl (r_lss rfl rfl rfl (decide_eq_true q11)) rfl rfl rfl ?_
    simp only [List.set_cons_zero, List.set_cons_succ]
    refine sch_end ?_
    refine h6 _ _ ?_
    refine wp_cond_true rfl ?_
    refine wp_skip ?_
    refine h5 _ _ ?_
    refine wp_seq_k (fun K7 h7 => ?_)
    refine wp_block ?_
    refine wp_seq_k (fun K8 h8 => ?_)
    refine region_quiet [(0, false), (1, false), (2, false), (3, false), (4, false), (5, false), (6, false), (7, false)] rfl ?_
    refine sq (v := .pointer (some ⟨b2, 1, none⟩)) rfl (r_field (k := 1) rfl rfl (by kernel_rfl)) rfl rfl rfl ?_
    refine sq (v := .slice A n c) rfl (r_load rfl rfl (by kernel_rfl) (eqS (blk_cell (j := 1) x6 rfl))) rfl rfl rfl ?_
    refine sq (v := .int .i64 ((k : Nat) : Int)) rfl (r_move rfl rfl) rfl rfl rfl ?_
    obtain ⟨x12, hx13⟩ := get_of (zs := ps) (k := k) (by have := hl; omega)
    obtain ⟨b14, o15, hA16, hb17, hc18, hc19, hc20, hc21⟩ := Rd.elPipe ha hx13
    refine sq (v := .pointer (some ⟨b14, o15 + k * 4, none⟩)) rfl (r_idx (k := k) rfl rfl hA16 rfl (by kernel_rfl) (by have := hl; omega)) rfl rfl rfl ?_
    refine sq (v := .pointer (some ⟨b14, o15 + k * 4, none⟩)) rfl (r_field0 rfl rfl (by kernel_rfl)) rfl rfl rfl ?_
    simp only [List.set_cons_zero, List.set_cons_succ]
    refine sq (v := .int .i64 x12.id) rfl (r_load rfl rfl (by kernel_rfl) (eqS (later c10 hc18))) rfl rfl rfl ?_
    refine sq (v := .int .i64 v) rfl (r_move rfl rfl) rfl rfl rfl ?_
    by_cases q22 : (x12.id : Int) = (v : Int)
    · refine sq (v := .bool true) rfl (r_eql rfl rfl rfl (decide_eq_true q22)) rfl rfl rfl ?_
      refine sch_end ?_
      simp only [List.set_cons_zero, List.set_cons_succ]
      refine h8 _ _ ?_
      refine wp_cond_true rfl ?_
      refine wp_seq_k (fun K9 h9 => ?_)
      refine region_quiet [(0, false), (1, false)] rfl ?_
      refine sq (v := .int .i64 ((k : Nat) : Int)) rfl (r_move rfl rfl) rfl rfl rfl ?_
      refine sq (v := .int .i64 ((k : Nat) : Int)) rfl (r_assign rfl rfl) rfl rfl rfl ?_
      refine sch_end ?_
      simp only [List.set_cons_zero, List.set_cons_succ]
      refine h9 _ _ ?_
      refine wp_ret ?_
      try simp only [Exit.then, Exit.inBlock]
      refine ret1 rfl rfl ?_
      exact ⟨ret_int ((findL_at hok hx13 q22).symm), c10⟩
    · refine sq (v := .bool false) rfl (r_eql rfl rfl rfl (decide_eq_false q22)) rfl rfl rfl ?_
      refine sch_end ?_
      simp only [List.set_cons_zero, List.set_cons_succ]
      refine h8 _ _ ?_
      refine wp_cond_false rfl ?_
      refine wp_skip ?_
      refine h7 _ _ ?_
      refine region_quiet [(0, false), (1, false), (2, false)] rfl ?_
      refine sq (v := .int .i64 ((k : Nat) : Int)) rfl (r_move rfl rfl) rfl rfl rfl ?_
      refine sq (v := .int .i64 ((k + 1 : Nat) : Int)) rfl (r_add (z := ((k + 1 : Nat) : Int)) rfl rfl rfl (by omega) (by omega)) rfl rfl rfl ?_
      refine sq (v := .int .i64 ((k + 1 : Nat) : Int)) rfl (r_assign rfl rfl) rfl rfl rfl ?_
      refine sch_end ?_
      simp only [List.set_cons_zero, List.set_cons_succ]
      exact h4 _ _ _ (by omega : (n - (k + 1)) < _) ⟨k + 1, _, _, _, _, _, _, _, _, _, _, _, _, _, _, _, _, rfl, rfl, (by omega), (upto_succ (Q := fun z => z.id ≠ v) hok hx13 q22), x6, c10⟩
  · refine sq (v := .bool false) rfl (r_lss rfl rfl rfl (decide_eq_false q11)) rfl rfl rfl ?_
    simp only [List.set_cons_zero, List.set_cons_succ]
    refine sch_end ?_
    refine h6 _ _ ?_
    refine wp_cond_false rfl ?_
    refine wp_exit ?_
    refine h2 _ _ ?_
    refine wp_seq_k (fun K10 h10 => ?_)
    refine region_quiet [(0, false)] rfl ?_
    refine sq (v := .int .i64 (-1)) rfl (r_assign rfl rfl) rfl rfl rfl ?_
    refine sch_end ?_
    simp only [List.set_cons_zero, List.set_cons_succ]
    refine h10 _ _ ?_
    refine wp_ret ?_
    try simp only [Exit.then]
    refine ret1 rfl rfl ?_
    exact ⟨ret_int ((findL_none hl hok (by omega)).symm), c10⟩

end Go.Proofs.YtdlcldaogcbnlaaDoor
