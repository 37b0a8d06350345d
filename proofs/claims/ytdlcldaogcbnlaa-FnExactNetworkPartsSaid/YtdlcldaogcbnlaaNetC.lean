/- Networks and nodes; pipes by number. -/
import Derived.Test.YtdlcldaogcbnlaaNetV
namespace Go.Proofs.Ytdlcldaogcbnlaa
open Go.RowKit
set_option linter.unusedVariables false

set_option maxRecDepth 100000 in
set_option maxHeartbeats 1000000 in
theorem l2Node_any (m : Int) (A : Option Addr) (n c : Nat) (ps : List Pp) (v : Int) (w : World) (ha : Rd w 4 A n (pipesV ps)) (hn : n ≤ 1048576) :
    Calls Try.prog 49 #[.agg #[.int .i64 m, .slice A n c], .int .i64 v] w fun e w' => e = .returned (.bool (goodN m ps && inB v 1 m)) ∧ Below w.heap.size w w' := by
  go_enter Try.func49, Try.ntmps49
  refine wp_seq_k (fun K1 h1 => ?_)
  refine region_plain (row := none) [(0, true), (1, false)] rfl ?_
  have s1 := SG.self w none
  refine sn (fun b => .pointer (some ⟨b, 0, none⟩)) #[.int .i64 m, .slice A n c] 31 s1 rfl rfl rfl (fun _ => by kernel_rfl) (fun b2 w3 hb4 k5 x6 s7 => ?_)
  have lo8 : w.heap.size ≤ b2 := by have := ((SG.belowR (Below.refl _ _) s1 (fun kq e => by cases e))).size; omega
  refine sq (v := .bool false) rfl (r_assign rfl rfl) rfl rfl rfl ?_
  refine sch_end ?_
  simp only [List.set_cons_zero, List.set_cons_succ]
  have c9 := (SG.belowR (Below.refl _ _) s7 (fun kq e => by cases e))
  refine h1 _ _ ?_
  refine wp_seq_k (fun K2 h2 => ?_)
  refine region_plain (row := none) [(0, false), (1, true), (2, false), (3, false), (4, false), (5, false), (6, true), (7, false), (8, false)] rfl ?_
  have s10 := SG.self w3 none
  refine sq (v := .agg #[.int .i64 m, .slice A n c]) rfl (r_load2 rfl rfl (by kernel_rfl) (by kernel_rfl) (sgS (blk_cell (j := 0) x6 rfl) (by simp)) (sgS (blk_cell (j := 1) x6 rfl) (by simp))) rfl rfl rfl ?_
  refine sc (vs := [.agg #[.int .i64 m, .slice A n c]]) rfl rfl rfl (by kernel_rfl) rfl rfl (l2Good_any m A n c ps _ (Rd.kept ha (SG.belowR c9 s10 (fun kq e => by cases e))) (by omega)) ?_
  rintro e w12 ⟨rfl, b11⟩
  have s13 := SG.of_below s10 b11
  refine ⟨_, rfl, s13, ?_⟩
  rcases Bool.eq_false_or_eq_true (goodN m ps) with q14 | q14
  · rw [q14]
    refine sq (v := .bool true) rfl (r_move rfl rfl) rfl rfl rfl ?_
    refine sq (v := .int .i64 v) rfl (r_move rfl rfl) rfl rfl rfl ?_
    refine sq (v := .pointer (some ⟨b2, 0, none⟩)) rfl (r_field0 rfl rfl (by kernel_rfl)) rfl rfl rfl ?_
    simp only [List.set_cons_zero, List.set_cons_succ]
    refine sq (v := .int .i64 m) rfl (r_load rfl rfl (by kernel_rfl) (sgS (blk_cell (j := 0) x6 rfl) (by simp))) rfl rfl rfl ?_
    refine sc (vs := [.int .i64 v, .int .i64 1, .int .i64 m]) rfl rfl rfl (by kernel_rfl) rfl rfl (l1In_any v 1 m _) ?_
    rintro e w' ⟨rfl, rfl⟩
    refine ⟨_, rfl, s13, ?_⟩
    rcases Bool.eq_false_or_eq_true (inB v 1 m) with q17 | q17
    · rw [q17]
      refine sq (v := .bool true) rfl (r_pick rfl rfl rfl) rfl rfl rfl ?_
      refine sq (v := .bool true) rfl (r_assign rfl rfl) rfl rfl rfl ?_
      refine sch_end ?_
      simp only [List.set_cons_zero, List.set_cons_succ]
      have x6 := SG.blk s13 x6 (by simp)
      have c18 := (SG.belowR c9 s13 (fun kq e => by cases e))
      refine h2 _ _ ?_
      refine wp_ret ?_
      try simp only [Exit.then]
      refine ret1 rfl rfl ?_
      exact ⟨ret_bool (by simp [q14, q17]), c18⟩
    · rw [q17]
      refine sq (v := .bool false) rfl (r_pick rfl rfl rfl) rfl rfl rfl ?_
      refine sq (v := .bool false) rfl (r_assign rfl rfl) rfl rfl rfl ?_
      refine sch_end ?_
      simp only [List.set_cons_zero, List.set_cons_succ]
      have x6 := SG.blk s13 x6 (by simp)
      have c19 := (SG.belowR c9 s13 (fun kq e => by cases e))
      refine h2 _ _ ?_
      refine wp_ret ?_
      try simp only [Exit.then]
      refine ret1 rfl rfl ?_
      exact ⟨ret_bool (by simp [q14, q17]), c19⟩
  · rw [q14]
    refine sq (v := .bool false) rfl (r_move rfl rfl) rfl rfl rfl ?_
    refine sk s13 rfl rfl rfl rfl ?_
    refine sk s13 rfl rfl rfl rfl ?_
    simp only [List.set_cons_zero, List.set_cons_succ]
    refine sk s13 rfl rfl rfl rfl ?_
    refine sk s13 rfl rfl rfl rfl ?_
    refine sq (v := .bool false) rfl (r_pick rfl rfl rfl) rfl rfl rfl ?_
    refine sq (v := .bool false) rfl (r_assign rfl rfl) rfl rfl rfl ?_
    refine sch_end ?_
    simp only [List.set_cons_zero, List.set_cons_succ]
    have x6 := SG.blk s13 x6 (by simp)
    have c20 := (SG.belowR c9 s13 (fun kq e => by cases e))
    refine h2 _ _ ?_
    refine wp_ret ?_
    try simp only [Exit.then]
    refine ret1 rfl rfl ?_
    exact ⟨ret_bool (by simp [q14]), c20⟩

set_option maxRecDepth 100000 in
set_option maxHeartbeats 1000000 in
theorem hasNode_any (m : Int) (A : Option Addr) (n c : Nat) (ps : List Pp) (v : Int) (w : World) (ha : Rd w 4 A n (pipesV ps)) (hn : n ≤ 1048576) :
    Calls Try.prog 44 #[.agg #[.int .i64 m, .slice A n c], .int .i64 v] w fun e w' => e = .returned (.bool (goodN m ps && inB v 1 m)) ∧ Below w.heap.size w w' := by
  go_enter Try.func44, Try.ntmps44
  refine wp_seq_k (fun K1 h1 => ?_)
  refine region_plain (row := none) [(0, true), (1, false)] rfl ?_
  have s1 := SG.self w none
  refine sn (fun b => .pointer (some ⟨b, 0, none⟩)) #[.int .i64 m, .slice A n c] 31 s1 rfl rfl rfl (fun _ => by kernel_rfl) (fun b2 w3 hb4 k5 x6 s7 => ?_)
  have lo8 : w.heap.size ≤ b2 := by have := ((SG.belowR (Below.refl _ _) s1 (fun kq e => by cases e))).size; omega
  refine sq (v := .bool false) rfl (r_assign rfl rfl) rfl rfl rfl ?_
  refine sch_end ?_
  simp only [List.set_cons_zero, List.set_cons_succ]
  have c9 := (SG.belowR (Below.refl _ _) s7 (fun kq e => by cases e))
  refine h1 _ _ ?_
  refine wp_seq_k (fun K2 h2 => ?_)
  refine region_plain (row := none) [(0, false), (1, true), (2, false), (3, false), (4, false), (5, true), (6, false), (7, false)] rfl ?_
  have s10 := SG.self w3 none
  refine sq (v := .agg #[.int .i64 m, .slice A n c]) rfl (r_load2 rfl rfl (by kernel_rfl) (by kernel_rfl) (sgS (blk_cell (j := 0) x6 rfl) (by simp)) (sgS (blk_cell (j := 1) x6 rfl) (by simp))) rfl rfl rfl ?_
  refine sc (vs := [.agg #[.int .i64 m, .slice A n c]]) rfl rfl rfl (by kernel_rfl) rfl rfl (IsValid_any m A n c ps _ (Rd.kept ha (SG.belowR c9 s10 (fun kq e => by cases e))) (by omega)) ?_
  rintro e w12 ⟨rfl, b11⟩
  have s13 := SG.of_below s10 b11
  refine ⟨_, rfl, s13, ?_⟩
  rcases Bool.eq_false_or_eq_true (goodN m ps) with q14 | q14
  · rw [q14]
    refine sq (v := .bool true) rfl (r_move rfl rfl) rfl rfl rfl ?_
    refine sq (v := .agg #[.int .i64 m, .slice A n c]) rfl (r_load2 rfl rfl (by kernel_rfl) (by kernel_rfl) (sgS (blk_cell (j := 0) x6 rfl) (by simp)) (sgS (blk_cell (j := 1) x6 rfl) (by simp))) rfl rfl rfl ?_
    refine sq (v := .int .i64 v) rfl (r_move rfl rfl) rfl rfl rfl ?_
    simp only [List.set_cons_zero, List.set_cons_succ]
    refine sc (vs := [.agg #[.int .i64 m, .slice A n c], .int .i64 v]) rfl rfl rfl (by kernel_rfl) rfl rfl (has_any m A n c ps v _) ?_
    rintro e w16 ⟨rfl, b15⟩
    have s17 := SG.of_below s13 b15
    refine ⟨_, rfl, s17, ?_⟩
    rcases Bool.eq_false_or_eq_true (inB v 1 m) with q18 | q18
    · rw [q18]
      refine sq (v := .bool true) rfl (r_pick rfl rfl rfl) rfl rfl rfl ?_
      refine sq (v := .bool true) rfl (r_assign rfl rfl) rfl rfl rfl ?_
      refine sch_end ?_
      simp only [List.set_cons_zero, List.set_cons_succ]
      have x6 := SG.blk s17 x6 (by simp)
      have c19 := (SG.belowR c9 s17 (fun kq e => by cases e))
      refine h2 _ _ ?_
      refine wp_ret ?_
      try simp only [Exit.then]
      refine ret1 rfl rfl ?_
      exact ⟨ret_bool (by simp [q14, q18]), c19⟩
    · rw [q18]
      refine sq (v := .bool false) rfl (r_pick rfl rfl rfl) rfl rfl rfl ?_
      refine sq (v := .bool false) rfl (r_assign rfl rfl) rfl rfl rfl ?_
      refine sch_end ?_
      simp only [List.set_cons_zero, List.set_cons_succ]
      have x6 := SG.blk s17 x6 (by simp)
      have c20 := (SG.belowR c9 s17 (fun kq e => by cases e))
      refine h2 _ _ ?_
      refine wp_ret ?_
      try simp only [Exit.then]
      refine ret1 rfl rfl ?_
      exact ⟨ret_bool (by simp [q14, q18]), c20⟩
  · rw [q14]
    refine sq (v := .bool false) rfl (r_move rfl rfl) rfl rfl rfl ?_
    refine sk s13 rfl rfl rfl rfl ?_
    refine sk s13 rfl rfl rfl rfl ?_
    simp only [List.set_cons_zero, List.set_cons_succ]
    refine sk s13 rfl rfl rfl rfl ?_
    refine sq (v := .bool false) rfl (r_pick rfl rfl rfl) rfl rfl rfl ?_
    refine sq (v := .bool false) rfl (r_assign rfl rfl) rfl rfl rfl ?_
    refine sch_end ?_
    simp only [List.set_cons_zero, List.set_cons_succ]
    have x6 := SG.blk s13 x6 (by simp)
    have c21 := (SG.belowR c9 s13 (fun kq e => by cases e))
    refine h2 _ _ ?_
    refine wp_ret ?_
    try simp only [Exit.then]
    refine ret1 rfl rfl ?_
    exact ⟨ret_bool (by simp [q14]), c21⟩

end Go.Proofs.Ytdlcldaogcbnlaa
