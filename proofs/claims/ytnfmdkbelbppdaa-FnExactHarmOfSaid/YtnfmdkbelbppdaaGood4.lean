/- Valid valves: the reference's test. -/
import Derived.Test.YtnfmdkbelbppdaaValL
namespace Go.Proofs.Ytnfmdkbelbppdaa
open Go.RowKit
set_option linter.unusedVariables false
set_option linter.unusedSimpArgs false

set_option maxRecDepth 100000 in
set_option maxHeartbeats 1000000 in
theorem l4Good_any (m : Int) (A : Option Addr) (n c : Nat) (ps : List Pp) (A2 : Option Addr) (n2 c2 : Nat) (vs : List Vv) (w : World) (ha : Rd w 4 A n (pipesV ps)) (hb : Rd w 4 A2 n2 (valvesV vs)) (hn : n ≤ 1048576) (hn2 : n2 ≤ 1048576) :
    Calls Try.prog 77 #[.agg #[.int .i64 m, .slice A n c], .slice A2 n2 c2] w fun e w' => e = .returned (.bool (goodV m ps vs)) ∧ Below w.heap.size w w' := by
  have hl := rd_pipes_len ha
  have hl2 := rd_valves_len hb
  go_enter Try.func77, Try.ntmps77
  refine wp_seq_k (fun K1 h1 => ?_)
  refine W.region_plain (row := none) [(0, true), (1, false)] (by kernel_rfl) ?_
  have s1 := SG.self w none
  refine W.sn (fun b => .pointer (some ⟨b, 0, none⟩)) #[.int .i64 m, .slice A n c] 32 s1 rfl (by kernel_rfl) rfl (fun _ => by kernel_rfl) (fun b2 w3 hb4 k5 x6 s7 => ?_)
  have lo8 : w.heap.size ≤ b2 := by have := ((SG.belowR (Below.refl _ _) s1 (fun kq e => by cases e))).size; omega
  refine W.sq (v := .bool false) rfl (r_assign rfl (by kernel_rfl)) (by kernel_rfl) rfl rfl ?_
  refine W.sch_end (l' := [.agg #[.int .i64 m, .slice A n c], .slice A2 n2 c2, .pointer (some ⟨b2, 0, none⟩), undef, .bool false, undef, undef, undef, undef, undef, undef, undef, undef, undef, undef, undef, undef, undef, undef, undef, undef, undef, undef, undef, undef, undef, undef, undef, undef, undef, undef, undef, undef, undef, undef, undef, undef, undef, undef, undef, undef, undef, undef, undef, undef, undef, undef, undef, undef, undef, undef, undef, undef, undef, undef, undef, undef, undef, undef, undef, undef, undef, undef, undef, undef, undef, undef, undef, undef, undef, undef, undef, undef, undef, undef, undef, undef, undef, undef, undef, undef, undef, undef, undef, undef, undef, undef, undef, undef, undef, undef, undef, undef, undef, undef, undef, undef, undef, undef]) (by kernel_rfl) ?_
  have c9 := (SG.belowR (Below.refl _ _) s7 (fun kq e => by cases e))
  refine h1 _ _ ?_
  refine wp_seq_k (fun K2 h2 => ?_)
  refine wp_seq_k (fun K3 h3 => ?_)
  refine W.region_plain (row := none) [(0, false), (1, true), (2, false), (3, false), (4, false), (5, false), (6, false), (7, false)] (by kernel_rfl) ?_
  have s10 := SG.self w3 none
  refine W.sq (v := .agg #[.int .i64 m, .slice A n c]) rfl (r_load2 rfl (by kernel_rfl) (by kernel_rfl) (by kernel_rfl) (sgS (blk_cell (j := 0) x6 (by kernel_rfl)) (by simp)) (sgS (blk_cell (j := 1) x6 (by kernel_rfl)) (by simp))) (by kernel_rfl) rfl rfl ?_
  refine W.sc (vs := [.agg #[.int .i64 m, .slice A n c]]) rfl rfl (by kernel_rfl) (by kernel_rfl) (by kernel_rfl) rfl (l2Good_any m A n c ps _ (Rd.kept ha (SG.belowR c9 s10 (fun kq e => by cases e))) (by omega)) ?_
  rintro e w12 ⟨rfl, b11⟩
  have s13 := SG.of_below s10 b11
  refine ⟨_, rfl, s13, ?_⟩
  rcases Bool.eq_false_or_eq_true (goodN m ps) with q14 | q14
  · rw [q14]
    refine W.sq (v := .bool false) rfl (r_not (b := true) rfl (by kernel_rfl) rfl) (by kernel_rfl) rfl rfl ?_
    refine W.sq (v := .bool false) rfl (r_move rfl (by kernel_rfl)) (by kernel_rfl) rfl rfl ?_
    refine W.sq (v := .slice A2 n2 c2) rfl (r_move rfl (by kernel_rfl)) (by kernel_rfl) rfl rfl ?_
    refine W.sq (v := .int .i64 ((n2 : Nat) : Int)) rfl (r_len (A := A2) (n := n2) (c := c2) rfl (by kernel_rfl) (by kernel_rfl)) (by kernel_rfl) rfl rfl ?_
    by_cases q15 : (((n2 : Nat) : Int) : Int) > (10 : Int)
    · refine W.sq (v := .bool true) rfl (r_gtr (m := ((n2 : Nat) : Int)) (n := 10) rfl (by kernel_rfl) (by kernel_rfl) (decide_eq_true q15)) (by kernel_rfl) rfl rfl ?_
      refine W.sq (v := .bool true) rfl (r_pick (b := false) rfl (by kernel_rfl) (by kernel_rfl)) (by kernel_rfl) rfl rfl ?_
      refine W.sch_endU (fun U16 => [.agg #[.int .i64 m, .slice A n c], .slice A2 n2 c2, .pointer (some ⟨b2, 0, none⟩), undef, .bool false, undef, undef, undef, undef, U16 9, U16 10, U16 11, U16 12, U16 13, U16 14, U16 15, .bool true, undef, undef, undef, undef, undef, undef, undef, undef, undef, undef, undef, undef, undef, undef, undef, undef, undef, undef, undef, undef, undef, undef, undef, undef, undef, undef, undef, undef, undef, undef, undef, undef, undef, undef, undef, undef, undef, undef, undef, undef, undef, undef, undef, undef, undef, undef, undef, undef, undef, undef, undef, undef, undef, undef, undef, undef, undef, undef, undef, undef, undef, undef, undef, undef, undef, undef, undef, undef, undef, undef, undef, undef, undef, undef, undef, undef, undef, undef, undef, undef, undef, undef]) (by kernel_rfl) (fun U16 => ?_)
      have x6 := SG.blk s13 x6 (by simp)
      have c17 := (SG.belowR c9 s13 (fun kq e => by cases e))
      refine h3 _ _ ?_
      refine wp_cond_true (by kernel_rfl) ?_
      refine wp_seq_k (fun K4 h4 => ?_)
      refine W.region_quiet [(0, false)] (by kernel_rfl) ?_
      refine W.sq (v := .bool false) rfl (r_assign rfl (by kernel_rfl)) (by kernel_rfl) rfl rfl ?_
      refine W.sch_end (l' := [.agg #[.int .i64 m, .slice A n c], .slice A2 n2 c2, .pointer (some ⟨b2, 0, none⟩), undef, .bool false, undef, undef, undef, undef, (U16 9), (U16 10), (U16 11), (U16 12), (U16 13), (U16 14), (U16 15), .bool true, undef, undef, undef, undef, undef, undef, undef, undef, undef, undef, undef, undef, undef, undef, undef, undef, undef, undef, undef, undef, undef, undef, undef, undef, undef, undef, undef, undef, undef, undef, undef, undef, undef, undef, undef, undef, undef, undef, undef, undef, undef, undef, undef, undef, undef, undef, undef, undef, undef, undef, undef, undef, undef, undef, undef, undef, undef, undef, undef, undef, undef, undef, undef, undef, undef, undef, undef, undef, undef, undef, undef, undef, undef, undef, undef, undef, undef, undef, undef, undef, undef, undef]) (by kernel_rfl) ?_
      refine h4 _ _ ?_
      refine wp_ret ?_
      try simp only [Exit.then]
      refine ret1 (v := .bool false) rfl (by kernel_rfl) ?_
      exact ⟨ret_bool (goodV_out (.inr (by omega))).symm, c17⟩
    · refine W.sq (v := .bool false) rfl (r_gtr (m := ((n2 : Nat) : Int)) (n := 10) rfl (by kernel_rfl) (by kernel_rfl) (decide_eq_false q15)) (by kernel_rfl) rfl rfl ?_
      refine W.sq (v := .bool false) rfl (r_pick (b := false) rfl (by kernel_rfl) (by kernel_rfl)) (by kernel_rfl) rfl rfl ?_
      refine W.sch_endU (fun U18 => [.agg #[.int .i64 m, .slice A n c], .slice A2 n2 c2, .pointer (some ⟨b2, 0, none⟩), undef, .bool false, undef, undef, undef, undef, U18 9, U18 10, U18 11, U18 12, U18 13, U18 14, U18 15, .bool false, undef, undef, undef, undef, undef, undef, undef, undef, undef, undef, undef, undef, undef, undef, undef, undef, undef, undef, undef, undef, undef, undef, undef, undef, undef, undef, undef, undef, undef, undef, undef, undef, undef, undef, undef, undef, undef, undef, undef, undef, undef, undef, undef, undef, undef, undef, undef, undef, undef, undef, undef, undef, undef, undef, undef, undef, undef, undef, undef, undef, undef, undef, undef, undef, undef, undef, undef, undef, undef, undef, undef, undef, undef, undef, undef, undef, undef, undef, undef, undef, undef, undef]) (by kernel_rfl) (fun U18 => ?_)
      have x6 := SG.blk s13 x6 (by simp)
      have c19 := (SG.belowR c9 s13 (fun kq e => by cases e))
      refine h3 _ _ ?_
      refine wp_cond_false (by kernel_rfl) ?_
      refine wp_skip ?_
      refine h2 _ _ ?_
      refine wp_seq_k (fun K5 h5 => ?_)
      refine wp_seq_k (fun K6 h6 => ?_)
      refine W.region_quiet [(0, false)] (by kernel_rfl) ?_
      refine W.sq (v := .int .i64 0) rfl (r_assign rfl (by kernel_rfl)) (by kernel_rfl) rfl rfl ?_
      refine W.sch_end (l' := [.agg #[.int .i64 m, .slice A n c], .slice A2 n2 c2, .pointer (some ⟨b2, 0, none⟩), undef, .bool false, .int .i64 0, undef, undef, undef, (U18 9), (U18 10), (U18 11), (U18 12), (U18 13), (U18 14), (U18 15), .bool false, undef, undef, undef, undef, undef, undef, undef, undef, undef, undef, undef, undef, undef, undef, undef, undef, undef, undef, undef, undef, undef, undef, undef, undef, undef, undef, undef, undef, undef, undef, undef, undef, undef, undef, undef, undef, undef, undef, undef, undef, undef, undef, undef, undef, undef, undef, undef, undef, undef, undef, undef, undef, undef, undef, undef, undef, undef, undef, undef, undef, undef, undef, undef, undef, undef, undef, undef, undef, undef, undef, undef, undef, undef, undef, undef, undef, undef, undef, undef, undef, undef, undef]) (by kernel_rfl) ?_
      refine h6 _ _ ?_
      refine wp_block ?_
      refine loopK (fun am0 aa0 wl0 => ∃ (K : Nat) (U0 : Nat → Value), aa0 = ⟨[.agg #[.int .i64 m, .slice A n c], .slice A2 n2 c2, .pointer (some ⟨b2, 0, none⟩), undef, .bool false, .int .i64 ((K : Nat) : Int), U0 6, U0 7, U0 8, (U18 9), (U18 10), (U18 11), (U18 12), (U18 13), (U18 14), (U18 15), .bool false, U0 17, U0 18, U0 19, U0 20, U0 21, U0 22, U0 23, U0 24, U0 25, U0 26, U0 27, U0 28, U0 29, U0 30, U0 31, U0 32, U0 33, U0 34, U0 35, U0 36, U0 37, U0 38, U0 39, U0 40, U0 41, U0 42, U0 43, U0 44, U0 45, U0 46, U0 47, U0 48, U0 49, U0 50, U0 51, U0 52, U0 53, U0 54, U0 55, U0 56, U0 57, U0 58, U0 59, U0 60, U0 61, U0 62, U0 63, U0 64, U0 65, U0 66, U0 67, U0 68, U0 69, U0 70, U0 71, U0 72, U0 73, U0 74, U0 75, U0 76, U0 77, U0 78, U0 79, U0 80, U0 81, U0 82, U0 83, U0 84, U0 85, U0 86, U0 87, U0 88, U0 89, U0 90, U0 91, U0 92, U0 93, U0 94, U0 95, U0 96, U0 97, U0 98].toArray, []⟩ ∧ (am0 = n2 - K) ∧ (K ≤ n2) ∧ (okVTo ps vs K = true) ∧ (wl0.heap[b2]? = some (.cells #[.int .i64 m, .slice A n c] 32 (0, 0))) ∧ (Below w.heap.size w wl0)) (n2 - 0) ?_ ?_
      · exact ⟨0, (fun iU9 => [.agg #[.int .i64 m, .slice A n c], .slice A2 n2 c2, .pointer (some ⟨b2, 0, none⟩), undef, .bool false, .int .i64 0, undef, undef, undef, (U18 9), (U18 10), (U18 11), (U18 12), (U18 13), (U18 14), (U18 15), .bool false, undef, undef, undef, undef, undef, undef, undef, undef, undef, undef, undef, undef, undef, undef, undef, undef, undef, undef, undef, undef, undef, undef, undef, undef, undef, undef, undef, undef, undef, undef, undef, undef, undef, undef, undef, undef, undef, undef, undef, undef, undef, undef, undef, undef, undef, undef, undef, undef, undef, undef, undef, undef, undef, undef, undef, undef, undef, undef, undef, undef, undef, undef, undef, undef, undef, undef, undef, undef, undef, undef, undef, undef, undef, undef, undef, undef, undef, undef, undef, undef, undef, undef].getD iU9 undef), (by kernel_rfl), rfl, (Nat.zero_le _), rfl, x6, c19⟩
      rintro am0 aa0 wl0 K7 h7 ⟨K, U0, rfl, rfl, hk, hok, x6, c20⟩
      refine wp_seq_k (fun K8 h8 => ?_)
      refine wp_seq_k (fun K9 h9 => ?_)
      refine W.region_quiet [(0, false), (1, false), (2, false), (3, false)] (by kernel_rfl) ?_
      refine W.sq (v := .int .i64 ((K : Nat) : Int)) rfl (r_move rfl (by kernel_rfl)) (by kernel_rfl) rfl rfl ?_
      refine W.sq (v := .slice A2 n2 c2) rfl (r_move rfl (by kernel_rfl)) (by kernel_rfl) rfl rfl ?_
      refine W.sq (v := .int .i64 ((n2 : Nat) : Int)) rfl (r_len (A := A2) (n := n2) (c := c2) rfl (by kernel_rfl) (by kernel_rfl)) (by kernel_rfl) rfl rfl ?_
      by_cases q21 : (((K : Nat) : Int) : Int) < (((n2 : Nat) : Int) : Int)
      · refine W.sq (v := .bool true) rfl (r_lss (m := ((K : Nat) : Int)) (n := ((n2 : Nat) : Int)) rfl (by kernel_rfl) (by kernel_rfl) (decide_eq_true q21)) (by kernel_rfl) rfl rfl ?_
        refine W.sch_endU (fun U22 => [.agg #[.int .i64 m, .slice A n c], .slice A2 n2 c2, .pointer (some ⟨b2, 0, none⟩), undef, .bool false, .int .i64 ((K : Nat) : Int), (U0 6), (U0 7), (U0 8), (U18 9), (U18 10), (U18 11), (U18 12), (U18 13), (U18 14), (U18 15), .bool false, U22 17, U22 18, U22 19, .bool true, (U0 21), (U0 22), (U0 23), (U0 24), (U0 25), (U0 26), (U0 27), (U0 28), (U0 29), (U0 30), (U0 31), (U0 32), (U0 33), (U0 34), (U0 35), (U0 36), (U0 37), (U0 38), (U0 39), (U0 40), (U0 41), (U0 42), (U0 43), (U0 44), (U0 45), (U0 46), (U0 47), (U0 48), (U0 49), (U0 50), (U0 51), (U0 52), (U0 53), (U0 54), (U0 55), (U0 56), (U0 57), (U0 58), (U0 59), (U0 60), (U0 61), (U0 62), (U0 63), (U0 64), (U0 65), (U0 66), (U0 67), (U0 68), (U0 69), (U0 70), (U0 71), (U0 72), (U0 73), (U0 74), (U0 75), (U0 76), (U0 77), (U0 78), (U0 79), (U0 80), (U0 81), (U0 82), (U0 83), (U0 84), (U0 85), (U0 86), (U0 87), (U0 88), (U0 89), (U0 90), (U0 91), (U0 92), (U0 93), (U0 94), (U0 95), (U0 96), (U0 97), (U0 98)]) (by kernel_rfl) (fun U22 => ?_)
        refine h9 _ _ ?_
        refine wp_cond_true (by kernel_rfl) ?_
        refine wp_skip ?_
        refine h8 _ _ ?_
        refine wp_seq_k (fun K10 h10 => ?_)
        refine wp_block ?_
        refine wp_seq_k (fun K11 h11 => ?_)
        refine W.region_plain (row := none) [(0, false), (1, false), (2, false), (3, false), (4, true), (5, true)] (by kernel_rfl) ?_
        have s23 := SG.self wl0 none
        refine W.sq (v := .slice A2 n2 c2) rfl (r_move rfl (by kernel_rfl)) (by kernel_rfl) rfl rfl ?_
        refine W.sq (v := .int .i64 ((K : Nat) : Int)) rfl (r_move rfl (by kernel_rfl)) (by kernel_rfl) rfl rfl ?_
        obtain ⟨x24, hx25⟩ := get_of (zs := vs) (k := K) (by have := hl2; omega)
        obtain ⟨b26, o27, hA28, hb29, hc30, hc31, hc32, hc33⟩ := Rd.elValve hb hx25
        refine W.sq (v := .pointer (some ⟨b26, o27 + K * 4, none⟩)) rfl (r_idx (n := n2) (c := c2) (k := K) rfl (by kernel_rfl) hA28 (by kernel_rfl) (by kernel_rfl) (by have := hl2; omega)) (by kernel_rfl) rfl rfl ?_
        refine W.sq (v := .agg #[.int .i64 x24.id, .int .i64 x24.pipe, .int .i64 x24.node, .bool x24.shut]) rfl (r_load4 rfl (by kernel_rfl) (by kernel_rfl) (by kernel_rfl) (sgS (later c20 hc30) (by simp)) (sgS (later c20 hc31) (by simp)) (sgS (later c20 hc32) (by simp)) (sgS (later c20 hc33) (by simp))) (by kernel_rfl) rfl rfl ?_
        refine W.sn (fun b => .pointer (some ⟨b, 0, none⟩)) #[.int .i64 0, .int .i64 0, .int .i64 0, .bool false] 60 s23 rfl (by kernel_rfl) rfl (fun _ => by kernel_rfl) (fun b34 w35 hb36 k37 x38 s39 => ?_)
        have lo40 : w.heap.size ≤ b34 := by have := ((SG.belowR c20 s23 (fun kq e => by cases e))).size; omega
        have ne41 : b2 ≠ b34 := by have := blk_lt x6; have := World.grownBy.size s23; omega
        refine W.ss (v := .agg #[.int .i64 x24.id, .int .i64 x24.pipe, .int .i64 x24.node, .bool x24.shut]) (j := 0) (news := [.int .i64 x24.id, .int .i64 x24.pipe, .int .i64 x24.node, .bool x24.shut]) (cs' := #[.int .i64 x24.id, .int .i64 x24.pipe, .int .i64 x24.node, .bool x24.shut]) s39 rfl (by kernel_rfl) rfl rfl (by kernel_rfl) (by kernel_rfl) x38 (by kernel_rfl) (by kernel_rfl) (by simp) (by kernel_rfl) (by kernel_rfl) (.inr (by have := World.grownBy.size s23; have := hb36; omega)) (fun w42 g43 x44 s45 => ?_)
        refine W.sch_endU (fun U46 => [.agg #[.int .i64 m, .slice A n c], .slice A2 n2 c2, .pointer (some ⟨b2, 0, none⟩), undef, .bool false, .int .i64 ((K : Nat) : Int), .pointer (some ⟨b34, 0, none⟩), (U0 7), (U0 8), (U18 9), (U18 10), (U18 11), (U18 12), (U18 13), (U18 14), (U18 15), .bool false, (U22 17), (U22 18), (U22 19), .bool true, (U0 21), (U0 22), U46 23, U46 24, U46 25, U46 26, (U0 27), (U0 28), (U0 29), (U0 30), (U0 31), (U0 32), (U0 33), (U0 34), (U0 35), (U0 36), (U0 37), (U0 38), (U0 39), (U0 40), (U0 41), (U0 42), (U0 43), (U0 44), (U0 45), (U0 46), (U0 47), (U0 48), (U0 49), (U0 50), (U0 51), (U0 52), (U0 53), (U0 54), (U0 55), (U0 56), (U0 57), (U0 58), (U0 59), (U0 60), (U0 61), (U0 62), (U0 63), (U0 64), (U0 65), (U0 66), (U0 67), (U0 68), (U0 69), (U0 70), (U0 71), (U0 72), (U0 73), (U0 74), (U0 75), (U0 76), (U0 77), (U0 78), (U0 79), (U0 80), (U0 81), (U0 82), (U0 83), (U0 84), (U0 85), (U0 86), (U0 87), (U0 88), (U0 89), (U0 90), (U0 91), (U0 92), (U0 93), (U0 94), (U0 95), (U0 96), (U0 97), (U0 98)]) (by kernel_rfl) (fun U46 => ?_)
        have x6 := SG.blk s45 x6 (by simp)
        have c47 := (SG.belowR c20 s45 (fun kq e => by cases e))
        refine h11 _ _ ?_
        refine wp_seq_k (fun K12 h12 => ?_)
        refine W.region_plain (row := none) [(0, false), (1, false), (2, false), (3, true), (4, false)] (by kernel_rfl) ?_
        have s48 := SG.self w42 none
        refine W.sq (v := .agg #[.int .i64 m, .slice A n c]) rfl (r_load2 rfl (by kernel_rfl) (by kernel_rfl) (by kernel_rfl) (sgS (blk_cell (j := 0) x6 (by kernel_rfl)) (by simp)) (sgS (blk_cell (j := 1) x6 (by kernel_rfl)) (by simp))) (by kernel_rfl) rfl rfl ?_
        refine W.sq (v := .pointer (some ⟨b34, 1, none⟩)) rfl (r_field (k := 1) rfl (by kernel_rfl) (by kernel_rfl)) (by kernel_rfl) rfl rfl ?_
        refine W.sq (v := .int .i64 x24.pipe) rfl (r_load rfl (by kernel_rfl) (by kernel_rfl) (sgS (blk_cell (j := 1) x44 (by kernel_rfl)) (by simp))) (by kernel_rfl) rfl rfl ?_
        refine W.sc (vs := [.agg #[.int .i64 m, .slice A n c], .int .i64 x24.pipe]) rfl rfl (by kernel_rfl) (by kernel_rfl) (by kernel_rfl) rfl (l2Find_any m A n c ps x24.pipe _ (Rd.kept ha (SG.belowR c47 s48 (fun kq e => by cases e))) (by omega)) ?_
        rintro e w50 ⟨rfl, b49⟩
        have s51 := SG.of_below s48 b49
        refine ⟨_, rfl, s51, ?_⟩
        refine W.sq (v := .int .i64 (findL ps x24.pipe)) rfl (r_assign rfl (by kernel_rfl)) (by kernel_rfl) rfl rfl ?_
        refine W.sch_endU (fun U52 => [.agg #[.int .i64 m, .slice A n c], .slice A2 n2 c2, .pointer (some ⟨b2, 0, none⟩), undef, .bool false, .int .i64 ((K : Nat) : Int), .pointer (some ⟨b34, 0, none⟩), .int .i64 (findL ps x24.pipe), (U0 8), (U18 9), (U18 10), (U18 11), (U18 12), (U18 13), (U18 14), (U18 15), .bool false, (U22 17), (U22 18), (U22 19), .bool true, (U0 21), (U0 22), (U46 23), (U46 24), (U46 25), (U46 26), U52 27, U52 28, U52 29, U52 30, (U0 31), (U0 32), (U0 33), (U0 34), (U0 35), (U0 36), (U0 37), (U0 38), (U0 39), (U0 40), (U0 41), (U0 42), (U0 43), (U0 44), (U0 45), (U0 46), (U0 47), (U0 48), (U0 49), (U0 50), (U0 51), (U0 52), (U0 53), (U0 54), (U0 55), (U0 56), (U0 57), (U0 58), (U0 59), (U0 60), (U0 61), (U0 62), (U0 63), (U0 64), (U0 65), (U0 66), (U0 67), (U0 68), (U0 69), (U0 70), (U0 71), (U0 72), (U0 73), (U0 74), (U0 75), (U0 76), (U0 77), (U0 78), (U0 79), (U0 80), (U0 81), (U0 82), (U0 83), (U0 84), (U0 85), (U0 86), (U0 87), (U0 88), (U0 89), (U0 90), (U0 91), (U0 92), (U0 93), (U0 94), (U0 95), (U0 96), (U0 97), (U0 98)]) (by kernel_rfl) (fun U52 => ?_)
        have x6 := SG.blk s51 x6 (by simp)
        have x44 := SG.blk s51 x44 (by simp)
        have c53 := (SG.belowR c47 s51 (fun kq e => by cases e))
        refine h12 _ _ ?_
        refine wp_seq_k (fun K13 h13 => ?_)
        refine wp_seq_k (fun K14 h14 => ?_)
        refine W.region_sch (row := none) (Sch.of [(0, false), (1, false), (2, true), (3, false), (4, false), (5, false), (6, false), (7, false), (8, false), (9, false), (10, false), (11, false), (12, false), (13, false), (14, false), (15, false), (16, false), (17, false), (18, false), (19, false), (20, false), (21, false), (22, false), (23, false), (24, false), (25, false), (26, false), (27, false), (28, false), (29, false), (30, false), (31, false), (32, false), (33, false), (34, false), (35, false), (36, false), (37, false), (38, false), (39, false), (40, false), (41, false), (42, false), (43, false), (44, false)]) (by kernel_rfl) (by kernel_rfl) (fun _ d _ _ _ h => by cases d <;> exact h) (by kernel_rfl) (fun w54 e55 s56 => ?_)
        refine W.sq (v := .pointer (some ⟨b34, 0, none⟩)) rfl (r_field0 rfl (by kernel_rfl) (by kernel_rfl)) (by kernel_rfl) rfl rfl ?_
        refine W.sq (v := .int .i64 x24.id) rfl (r_load rfl (by kernel_rfl) (by kernel_rfl) (sgS (blk_cell (j := 0) x44 (by kernel_rfl)) (by simp))) (by kernel_rfl) rfl rfl ?_
        refine W.sc (vs := [.int .i64 x24.id, .int .i64 1, .int .i64 99]) rfl rfl (by kernel_rfl) (by kernel_rfl) (by kernel_rfl) rfl (l1In_any x24.id 1 99 _) ?_
        rintro e w' ⟨rfl, rfl⟩
        refine ⟨_, rfl, s56, ?_⟩
        rcases Bool.eq_false_or_eq_true (inB x24.id 1 99) with q59 | q59
        · rw [q59]
          refine W.sq (v := .bool false) rfl (r_not (b := true) rfl (by kernel_rfl) rfl) (by kernel_rfl) rfl rfl ?_
          refine W.sq (v := .bool false) rfl (r_move rfl (by kernel_rfl)) (by kernel_rfl) rfl rfl ?_
          refine W.sq (v := .int .i64 ((K : Nat) : Int)) rfl (r_move rfl (by kernel_rfl)) (by kernel_rfl) rfl rfl ?_
          by_cases q60 : (((K : Nat) : Int) : Int) > (0 : Int)
          · obtain ⟨k, rfl⟩ : ∃ k, K = k + 1 := ⟨K - 1, by omega⟩
            refine W.sq (v := .bool true) rfl (r_gtr (m := (((k + 1) : Nat) : Int)) (n := 0) rfl (by kernel_rfl) (by kernel_rfl) (decide_eq_true q60)) (by kernel_rfl) rfl rfl ?_
            refine W.sq (v := .bool true) rfl (r_move rfl (by kernel_rfl)) (by kernel_rfl) rfl rfl ?_
            refine W.sq (v := .slice A2 n2 c2) rfl (r_move rfl (by kernel_rfl)) (by kernel_rfl) rfl rfl ?_
            refine W.sq (v := .int .i64 (((k + 1) : Nat) : Int)) rfl (r_move rfl (by kernel_rfl)) (by kernel_rfl) rfl rfl ?_
            refine W.sq (v := .int .i64 ((k : Nat) : Int)) rfl (r_sub (m := (((k + 1) : Nat) : Int)) (n := 1) (z := ((k : Nat) : Int)) rfl (by kernel_rfl) (by kernel_rfl) (by omega) (by omega)) (by kernel_rfl) rfl rfl ?_
            obtain ⟨x61, hx62⟩ := get_of (zs := vs) (k := k) (by have := hl2; omega)
            obtain ⟨b63, o64, hA65, hb66, hc67, hc68, hc69, hc70⟩ := Rd.elValve hb hx62
            refine W.sq (v := .pointer (some ⟨b63, o64 + k * 4, none⟩)) rfl (r_idx (n := n2) (c := c2) (k := k) rfl (by kernel_rfl) hA65 (by kernel_rfl) (by kernel_rfl) (by have := hl2; omega)) (by kernel_rfl) rfl rfl ?_
            refine W.sq (v := .pointer (some ⟨b63, o64 + k * 4, none⟩)) rfl (r_field0 rfl (by kernel_rfl) (by kernel_rfl)) (by kernel_rfl) rfl rfl ?_
            refine W.sq (v := .int .i64 x61.id) rfl (r_load rfl (by kernel_rfl) (by kernel_rfl) (sgS (later c53 hc67) (by simp))) (by kernel_rfl) rfl rfl ?_
            refine W.sq (v := .pointer (some ⟨b34, 0, none⟩)) rfl (r_field0 rfl (by kernel_rfl) (by kernel_rfl)) (by kernel_rfl) rfl rfl ?_
            refine W.sq (v := .int .i64 x24.id) rfl (r_load rfl (by kernel_rfl) (by kernel_rfl) (sgS (blk_cell (j := 0) x44 (by kernel_rfl)) (by simp))) (by kernel_rfl) rfl rfl ?_
            by_cases q71 : (x61.id : Int) ≥ (x24.id : Int)
            · refine W.sq (v := .bool true) rfl (r_geq (m := x61.id) (n := x24.id) rfl (by kernel_rfl) (by kernel_rfl) (decide_eq_true q71)) (by kernel_rfl) rfl rfl ?_
              refine W.sq (v := .bool true) rfl (r_pick (b := true) rfl (by kernel_rfl) (by kernel_rfl)) (by kernel_rfl) rfl rfl ?_
              refine W.sq (v := .bool true) rfl (r_pick (b := false) rfl (by kernel_rfl) (by kernel_rfl)) (by kernel_rfl) rfl rfl ?_
              refine W.sq (v := .bool true) rfl (r_move rfl (by kernel_rfl)) (by kernel_rfl) rfl rfl ?_
              refine W.sk s56 rfl (by kernel_rfl) rfl rfl ?_
              refine W.sk s56 rfl (by kernel_rfl) rfl rfl ?_
              refine W.sq (v := .bool true) rfl (r_pick (b := true) rfl (by kernel_rfl) (by kernel_rfl)) (by kernel_rfl) rfl rfl ?_
              refine W.sq (v := .bool true) rfl (r_move rfl (by kernel_rfl)) (by kernel_rfl) rfl rfl ?_
              refine W.sk s56 rfl (by kernel_rfl) rfl rfl ?_
              refine W.sk s56 rfl (by kernel_rfl) rfl rfl ?_
              refine W.sk s56 rfl (by kernel_rfl) rfl rfl ?_
              refine W.sk s56 rfl (by kernel_rfl) rfl rfl ?_
              refine W.sk s56 rfl (by kernel_rfl) rfl rfl ?_
              refine W.sk s56 rfl (by kernel_rfl) rfl rfl ?_
              refine W.sk s56 rfl (by kernel_rfl) rfl rfl ?_
              refine W.sk s56 rfl (by kernel_rfl) rfl rfl ?_
              refine W.sk s56 rfl (by kernel_rfl) rfl rfl ?_
              refine W.sk s56 rfl (by kernel_rfl) rfl rfl ?_
              refine W.sk s56 rfl (by kernel_rfl) rfl rfl ?_
              refine W.sk s56 rfl (by kernel_rfl) rfl rfl ?_
              refine W.sk s56 rfl (by kernel_rfl) rfl rfl ?_
              refine W.sk s56 rfl (by kernel_rfl) rfl rfl ?_
              refine W.sk s56 rfl (by kernel_rfl) rfl rfl ?_
              refine W.sk s56 rfl (by kernel_rfl) rfl rfl ?_
              refine W.sk s56 rfl (by kernel_rfl) rfl rfl ?_
              refine W.sk s56 rfl (by kernel_rfl) rfl rfl ?_
              refine W.sk s56 rfl (by kernel_rfl) rfl rfl ?_
              refine W.sk s56 rfl (by kernel_rfl) rfl rfl ?_
              refine W.sq (v := .bool true) rfl (r_pick (b := true) rfl (by kernel_rfl) (by kernel_rfl)) (by kernel_rfl) rfl rfl ?_
              refine W.sch_endU (fun U72 => [.agg #[.int .i64 m, .slice A n c], .slice A2 n2 c2, .pointer (some ⟨b2, 0, none⟩), undef, .bool false, .int .i64 (((k + 1) : Nat) : Int), .pointer (some ⟨b34, 0, none⟩), .int .i64 (findL ps x24.pipe), (U0 8), (U18 9), (U18 10), (U18 11), (U18 12), (U18 13), (U18 14), (U18 15), .bool false, (U22 17), (U22 18), (U22 19), .bool true, (U0 21), (U0 22), (U46 23), (U46 24), (U46 25), (U46 26), (U52 27), (U52 28), (U52 29), (U52 30), U72 31, U72 32, U72 33, U72 34, U72 35, U72 36, U72 37, U72 38, U72 39, U72 40, U72 41, U72 42, U72 43, U72 44, U72 45, U72 46, U72 47, U72 48, U72 49, U72 50, undef, undef, U72 53, U72 54, undef, undef, undef, undef, undef, undef, undef, undef, undef, undef, undef, undef, undef, undef, undef, undef, undef, undef, undef, undef, .bool true, (U0 76), (U0 77), (U0 78), (U0 79), (U0 80), (U0 81), (U0 82), (U0 83), (U0 84), (U0 85), (U0 86), (U0 87), (U0 88), (U0 89), (U0 90), (U0 91), (U0 92), (U0 93), (U0 94), (U0 95), (U0 96), (U0 97), (U0 98)]) (by kernel_rfl) (fun U72 => ?_)
              have x6 := SG.blk s56 x6 (by simp)
              have x44 := SG.blk s56 x44 (by simp)
              have c73 := (SG.belowR c53 s56 (fun kq e => by cases e))
              refine h14 _ _ ?_
              refine wp_cond_true (by kernel_rfl) ?_
              refine wp_seq_k (fun K15 h15 => ?_)
              refine W.region_quiet [(0, false)] (by kernel_rfl) ?_
              refine W.sq (v := .bool false) rfl (r_assign rfl (by kernel_rfl)) (by kernel_rfl) rfl rfl ?_
              refine W.sch_end (l' := [.agg #[.int .i64 m, .slice A n c], .slice A2 n2 c2, .pointer (some ⟨b2, 0, none⟩), undef, .bool false, .int .i64 (((k + 1) : Nat) : Int), .pointer (some ⟨b34, 0, none⟩), .int .i64 (findL ps x24.pipe), (U0 8), (U18 9), (U18 10), (U18 11), (U18 12), (U18 13), (U18 14), (U18 15), .bool false, (U22 17), (U22 18), (U22 19), .bool true, (U0 21), (U0 22), (U46 23), (U46 24), (U46 25), (U46 26), (U52 27), (U52 28), (U52 29), (U52 30), (U72 31), (U72 32), (U72 33), (U72 34), (U72 35), (U72 36), (U72 37), (U72 38), (U72 39), (U72 40), (U72 41), (U72 42), (U72 43), (U72 44), (U72 45), (U72 46), (U72 47), (U72 48), (U72 49), (U72 50), undef, undef, (U72 53), (U72 54), undef, undef, undef, undef, undef, undef, undef, undef, undef, undef, undef, undef, undef, undef, undef, undef, undef, undef, undef, undef, .bool true, (U0 76), (U0 77), (U0 78), (U0 79), (U0 80), (U0 81), (U0 82), (U0 83), (U0 84), (U0 85), (U0 86), (U0 87), (U0 88), (U0 89), (U0 90), (U0 91), (U0 92), (U0 93), (U0 94), (U0 95), (U0 96), (U0 97), (U0 98)]) (by kernel_rfl) ?_
              refine h15 _ _ ?_
              refine wp_ret ?_
              try simp only [Exit.then, Exit.inBlock]
              refine ret1 (v := .bool false) rfl (by kernel_rfl) ?_
              have e8 : okV ps vs (k + 1) = false := Bool.eq_false_iff.2 (fun h9 => by
                have h8 := (okV_iff hx25).1 h9
                obtain ⟨⟨hA, hB⟩, hC, hD⟩ := h8
                obtain ⟨hC0, p9, hp9, hC1⟩ := endAt_pos hC
                have hB' := of_decide_eq_true ((above_next hx62).symm.trans hB)
                first | omega | (rw [inB_iff.2 hA] at q59; cases q59))
              exact ⟨ret_bool (goodV_bad (k := k + 1) (by omega) e8).symm, c73⟩
            · refine W.sq (v := .bool false) rfl (r_geq (m := x61.id) (n := x24.id) rfl (by kernel_rfl) (by kernel_rfl) (decide_eq_false q71)) (by kernel_rfl) rfl rfl ?_
              refine W.sq (v := .bool false) rfl (r_pick (b := true) rfl (by kernel_rfl) (by kernel_rfl)) (by kernel_rfl) rfl rfl ?_
              refine W.sq (v := .bool false) rfl (r_pick (b := false) rfl (by kernel_rfl) (by kernel_rfl)) (by kernel_rfl) rfl rfl ?_
              refine W.sq (v := .bool false) rfl (r_move rfl (by kernel_rfl)) (by kernel_rfl) rfl rfl ?_
              refine W.sq (v := .int .i64 (findL ps x24.pipe)) rfl (r_move rfl (by kernel_rfl)) (by kernel_rfl) rfl rfl ?_
              by_cases q74 : (findL ps x24.pipe : Int) < (0 : Int)
              · refine W.sq (v := .bool true) rfl (r_lss (m := findL ps x24.pipe) (n := 0) rfl (by kernel_rfl) (by kernel_rfl) (decide_eq_true q74)) (by kernel_rfl) rfl rfl ?_
                refine W.sq (v := .bool true) rfl (r_pick (b := false) rfl (by kernel_rfl) (by kernel_rfl)) (by kernel_rfl) rfl rfl ?_
                refine W.sq (v := .bool true) rfl (r_move rfl (by kernel_rfl)) (by kernel_rfl) rfl rfl ?_
                refine W.sk s56 rfl (by kernel_rfl) rfl rfl ?_
                refine W.sk s56 rfl (by kernel_rfl) rfl rfl ?_
                refine W.sk s56 rfl (by kernel_rfl) rfl rfl ?_
                refine W.sk s56 rfl (by kernel_rfl) rfl rfl ?_
                refine W.sk s56 rfl (by kernel_rfl) rfl rfl ?_
                refine W.sk s56 rfl (by kernel_rfl) rfl rfl ?_
                refine W.sk s56 rfl (by kernel_rfl) rfl rfl ?_
                refine W.sk s56 rfl (by kernel_rfl) rfl rfl ?_
                refine W.sk s56 rfl (by kernel_rfl) rfl rfl ?_
                refine W.sk s56 rfl (by kernel_rfl) rfl rfl ?_
                refine W.sk s56 rfl (by kernel_rfl) rfl rfl ?_
                refine W.sk s56 rfl (by kernel_rfl) rfl rfl ?_
                refine W.sk s56 rfl (by kernel_rfl) rfl rfl ?_
                refine W.sk s56 rfl (by kernel_rfl) rfl rfl ?_
                refine W.sk s56 rfl (by kernel_rfl) rfl rfl ?_
                refine W.sk s56 rfl (by kernel_rfl) rfl rfl ?_
                refine W.sk s56 rfl (by kernel_rfl) rfl rfl ?_
                refine W.sk s56 rfl (by kernel_rfl) rfl rfl ?_
                refine W.sk s56 rfl (by kernel_rfl) rfl rfl ?_
                refine W.sk s56 rfl (by kernel_rfl) rfl rfl ?_
                refine W.sq (v := .bool true) rfl (r_pick (b := true) rfl (by kernel_rfl) (by kernel_rfl)) (by kernel_rfl) rfl rfl ?_
                refine W.sch_endU (fun U75 => [.agg #[.int .i64 m, .slice A n c], .slice A2 n2 c2, .pointer (some ⟨b2, 0, none⟩), undef, .bool false, .int .i64 (((k + 1) : Nat) : Int), .pointer (some ⟨b34, 0, none⟩), .int .i64 (findL ps x24.pipe), (U0 8), (U18 9), (U18 10), (U18 11), (U18 12), (U18 13), (U18 14), (U18 15), .bool false, (U22 17), (U22 18), (U22 19), .bool true, (U0 21), (U0 22), (U46 23), (U46 24), (U46 25), (U46 26), (U52 27), (U52 28), (U52 29), (U52 30), U75 31, U75 32, U75 33, U75 34, U75 35, U75 36, U75 37, U75 38, U75 39, U75 40, U75 41, U75 42, U75 43, U75 44, U75 45, U75 46, U75 47, U75 48, U75 49, U75 50, U75 51, U75 52, U75 53, U75 54, undef, undef, undef, undef, undef, undef, undef, undef, undef, undef, undef, undef, undef, undef, undef, undef, undef, undef, undef, undef, .bool true, (U0 76), (U0 77), (U0 78), (U0 79), (U0 80), (U0 81), (U0 82), (U0 83), (U0 84), (U0 85), (U0 86), (U0 87), (U0 88), (U0 89), (U0 90), (U0 91), (U0 92), (U0 93), (U0 94), (U0 95), (U0 96), (U0 97), (U0 98)]) (by kernel_rfl) (fun U75 => ?_)
                have x6 := SG.blk s56 x6 (by simp)
                have x44 := SG.blk s56 x44 (by simp)
                have c76 := (SG.belowR c53 s56 (fun kq e => by cases e))
                refine h14 _ _ ?_
                refine wp_cond_true (by kernel_rfl) ?_
                refine wp_seq_k (fun K16 h16 => ?_)
                refine W.region_quiet [(0, false)] (by kernel_rfl) ?_
                refine W.sq (v := .bool false) rfl (r_assign rfl (by kernel_rfl)) (by kernel_rfl) rfl rfl ?_
                refine W.sch_end (l' := [.agg #[.int .i64 m, .slice A n c], .slice A2 n2 c2, .pointer (some ⟨b2, 0, none⟩), undef, .bool false, .int .i64 (((k + 1) : Nat) : Int), .pointer (some ⟨b34, 0, none⟩), .int .i64 (findL ps x24.pipe), (U0 8), (U18 9), (U18 10), (U18 11), (U18 12), (U18 13), (U18 14), (U18 15), .bool false, (U22 17), (U22 18), (U22 19), .bool true, (U0 21), (U0 22), (U46 23), (U46 24), (U46 25), (U46 26), (U52 27), (U52 28), (U52 29), (U52 30), (U75 31), (U75 32), (U75 33), (U75 34), (U75 35), (U75 36), (U75 37), (U75 38), (U75 39), (U75 40), (U75 41), (U75 42), (U75 43), (U75 44), (U75 45), (U75 46), (U75 47), (U75 48), (U75 49), (U75 50), (U75 51), (U75 52), (U75 53), (U75 54), undef, undef, undef, undef, undef, undef, undef, undef, undef, undef, undef, undef, undef, undef, undef, undef, undef, undef, undef, undef, .bool true, (U0 76), (U0 77), (U0 78), (U0 79), (U0 80), (U0 81), (U0 82), (U0 83), (U0 84), (U0 85), (U0 86), (U0 87), (U0 88), (U0 89), (U0 90), (U0 91), (U0 92), (U0 93), (U0 94), (U0 95), (U0 96), (U0 97), (U0 98)]) (by kernel_rfl) ?_
                refine h16 _ _ ?_
                refine wp_ret ?_
                try simp only [Exit.then, Exit.inBlock]
                refine ret1 (v := .bool false) rfl (by kernel_rfl) ?_
                have e8 : okV ps vs (k + 1) = false := Bool.eq_false_iff.2 (fun h9 => by
                  have h8 := (okV_iff hx25).1 h9
                  obtain ⟨⟨hA, hB⟩, hC, hD⟩ := h8
                  obtain ⟨hC0, p9, hp9, hC1⟩ := endAt_pos hC
                  have hB' := of_decide_eq_true ((above_next hx62).symm.trans hB)
                  first | omega | (rw [inB_iff.2 hA] at q59; cases q59))
                exact ⟨ret_bool (goodV_bad (k := k + 1) (by omega) e8).symm, c76⟩
              · refine W.sq (v := .bool false) rfl (r_lss (m := findL ps x24.pipe) (n := 0) rfl (by kernel_rfl) (by kernel_rfl) (decide_eq_false q74)) (by kernel_rfl) rfl rfl ?_
                refine W.sq (v := .bool false) rfl (r_pick (b := false) rfl (by kernel_rfl) (by kernel_rfl)) (by kernel_rfl) rfl rfl ?_
                refine W.sq (v := .bool false) rfl (r_move rfl (by kernel_rfl)) (by kernel_rfl) rfl rfl ?_
                refine W.sq (v := .pointer (some ⟨b2, 1, none⟩)) rfl (r_field (k := 1) rfl (by kernel_rfl) (by kernel_rfl)) (by kernel_rfl) rfl rfl ?_
                refine W.sq (v := .slice A n c) rfl (r_load rfl (by kernel_rfl) (by kernel_rfl) (sgS (blk_cell (j := 1) x6 (by kernel_rfl)) (by simp))) (by kernel_rfl) rfl rfl ?_
                refine W.sq (v := .int .i64 (findL ps x24.pipe)) rfl (r_move rfl (by kernel_rfl)) (by kernel_rfl) rfl rfl ?_
                have hfl := findL_lt ps x24.pipe
                obtain ⟨x77, hx78⟩ := get_of (zs := ps) (k := (findL ps x24.pipe).toNat) (by have := hl; omega)
                obtain ⟨b79, o80, hA81, hb82, hc83, hc84, hc85, hc86⟩ := Rd.elPipe ha hx78
                refine W.sq (v := .pointer (some ⟨b79, o80 + ((findL ps x24.pipe).toNat) * 4, none⟩)) rfl (r_idx (n := n) (c := c) (k := (findL ps x24.pipe).toNat) rfl (by kernel_rfl) hA81 (evk (z := findL ps x24.pipe) (by kernel_rfl) (by omega)) (by kernel_rfl) (by have := hl; omega)) (by kernel_rfl) rfl rfl ?_
                refine W.sq (v := .pointer (some ⟨b79, o80 + ((findL ps x24.pipe).toNat) * 4 + 1, none⟩)) rfl (r_field (k := 1) rfl (by kernel_rfl) (by kernel_rfl)) (by kernel_rfl) rfl rfl ?_
                refine W.sq (v := .int .i64 x77.fr) rfl (r_load rfl (by kernel_rfl) (by kernel_rfl) (sgS (later c53 hc84) (by simp))) (by kernel_rfl) rfl rfl ?_
                refine W.sq (v := .pointer (some ⟨b34, 2, none⟩)) rfl (r_field (k := 2) rfl (by kernel_rfl) (by kernel_rfl)) (by kernel_rfl) rfl rfl ?_
                refine W.sq (v := .int .i64 x24.node) rfl (r_load rfl (by kernel_rfl) (by kernel_rfl) (sgS (blk_cell (j := 2) x44 (by kernel_rfl)) (by simp))) (by kernel_rfl) rfl rfl ?_
                by_cases q87 : (x77.fr : Int) ≠ (x24.node : Int)
                · refine W.sq (v := .bool true) rfl (r_neq (m := x77.fr) (n := x24.node) rfl (by kernel_rfl) (by kernel_rfl) (decide_eq_true q87)) (by kernel_rfl) rfl rfl ?_
                  refine W.sq (v := .bool true) rfl (r_move rfl (by kernel_rfl)) (by kernel_rfl) rfl rfl ?_
                  refine W.sq (v := .pointer (some ⟨b2, 1, none⟩)) rfl (r_field (k := 1) rfl (by kernel_rfl) (by kernel_rfl)) (by kernel_rfl) rfl rfl ?_
                  refine W.sq (v := .slice A n c) rfl (r_load rfl (by kernel_rfl) (by kernel_rfl) (sgS (blk_cell (j := 1) x6 (by kernel_rfl)) (by simp))) (by kernel_rfl) rfl rfl ?_
                  refine W.sq (v := .int .i64 (findL ps x24.pipe)) rfl (r_move rfl (by kernel_rfl)) (by kernel_rfl) rfl rfl ?_
                  refine W.sq (v := .pointer (some ⟨b79, o80 + ((findL ps x24.pipe).toNat) * 4, none⟩)) rfl (r_idx (n := n) (c := c) (k := (findL ps x24.pipe).toNat) rfl (by kernel_rfl) hA81 (evk (z := findL ps x24.pipe) (by kernel_rfl) (by omega)) (by kernel_rfl) (by have := hl; omega)) (by kernel_rfl) rfl rfl ?_
                  refine W.sq (v := .pointer (some ⟨b79, o80 + ((findL ps x24.pipe).toNat) * 4 + 2, none⟩)) rfl (r_field (k := 2) rfl (by kernel_rfl) (by kernel_rfl)) (by kernel_rfl) rfl rfl ?_
                  refine W.sq (v := .int .i64 x77.to) rfl (r_load rfl (by kernel_rfl) (by kernel_rfl) (sgS (later c53 hc85) (by simp))) (by kernel_rfl) rfl rfl ?_
                  refine W.sq (v := .pointer (some ⟨b34, 2, none⟩)) rfl (r_field (k := 2) rfl (by kernel_rfl) (by kernel_rfl)) (by kernel_rfl) rfl rfl ?_
                  refine W.sq (v := .int .i64 x24.node) rfl (r_load rfl (by kernel_rfl) (by kernel_rfl) (sgS (blk_cell (j := 2) x44 (by kernel_rfl)) (by simp))) (by kernel_rfl) rfl rfl ?_
                  by_cases q88 : (x77.to : Int) ≠ (x24.node : Int)
                  · refine W.sq (v := .bool true) rfl (r_neq (m := x77.to) (n := x24.node) rfl (by kernel_rfl) (by kernel_rfl) (decide_eq_true q88)) (by kernel_rfl) rfl rfl ?_
                    refine W.sq (v := .bool true) rfl (r_pick (b := true) rfl (by kernel_rfl) (by kernel_rfl)) (by kernel_rfl) rfl rfl ?_
                    refine W.sq (v := .bool true) rfl (r_pick (b := false) rfl (by kernel_rfl) (by kernel_rfl)) (by kernel_rfl) rfl rfl ?_
                    refine W.sch_endU (fun U89 => [.agg #[.int .i64 m, .slice A n c], .slice A2 n2 c2, .pointer (some ⟨b2, 0, none⟩), undef, .bool false, .int .i64 (((k + 1) : Nat) : Int), .pointer (some ⟨b34, 0, none⟩), .int .i64 (findL ps x24.pipe), (U0 8), (U18 9), (U18 10), (U18 11), (U18 12), (U18 13), (U18 14), (U18 15), .bool false, (U22 17), (U22 18), (U22 19), .bool true, (U0 21), (U0 22), (U46 23), (U46 24), (U46 25), (U46 26), (U52 27), (U52 28), (U52 29), (U52 30), U89 31, U89 32, U89 33, U89 34, U89 35, U89 36, U89 37, U89 38, U89 39, U89 40, U89 41, U89 42, U89 43, U89 44, U89 45, U89 46, U89 47, U89 48, U89 49, U89 50, U89 51, U89 52, U89 53, U89 54, U89 55, U89 56, U89 57, U89 58, U89 59, U89 60, U89 61, U89 62, U89 63, U89 64, U89 65, U89 66, U89 67, U89 68, U89 69, U89 70, U89 71, U89 72, U89 73, U89 74, .bool true, (U0 76), (U0 77), (U0 78), (U0 79), (U0 80), (U0 81), (U0 82), (U0 83), (U0 84), (U0 85), (U0 86), (U0 87), (U0 88), (U0 89), (U0 90), (U0 91), (U0 92), (U0 93), (U0 94), (U0 95), (U0 96), (U0 97), (U0 98)]) (by kernel_rfl) (fun U89 => ?_)
                    have x6 := SG.blk s56 x6 (by simp)
                    have x44 := SG.blk s56 x44 (by simp)
                    have c90 := (SG.belowR c53 s56 (fun kq e => by cases e))
                    refine h14 _ _ ?_
                    refine wp_cond_true (by kernel_rfl) ?_
                    refine wp_seq_k (fun K17 h17 => ?_)
                    refine W.region_quiet [(0, false)] (by kernel_rfl) ?_
                    refine W.sq (v := .bool false) rfl (r_assign rfl (by kernel_rfl)) (by kernel_rfl) rfl rfl ?_
                    refine W.sch_end (l' := [.agg #[.int .i64 m, .slice A n c], .slice A2 n2 c2, .pointer (some ⟨b2, 0, none⟩), undef, .bool false, .int .i64 (((k + 1) : Nat) : Int), .pointer (some ⟨b34, 0, none⟩), .int .i64 (findL ps x24.pipe), (U0 8), (U18 9), (U18 10), (U18 11), (U18 12), (U18 13), (U18 14), (U18 15), .bool false, (U22 17), (U22 18), (U22 19), .bool true, (U0 21), (U0 22), (U46 23), (U46 24), (U46 25), (U46 26), (U52 27), (U52 28), (U52 29), (U52 30), (U89 31), (U89 32), (U89 33), (U89 34), (U89 35), (U89 36), (U89 37), (U89 38), (U89 39), (U89 40), (U89 41), (U89 42), (U89 43), (U89 44), (U89 45), (U89 46), (U89 47), (U89 48), (U89 49), (U89 50), (U89 51), (U89 52), (U89 53), (U89 54), (U89 55), (U89 56), (U89 57), (U89 58), (U89 59), (U89 60), (U89 61), (U89 62), (U89 63), (U89 64), (U89 65), (U89 66), (U89 67), (U89 68), (U89 69), (U89 70), (U89 71), (U89 72), (U89 73), (U89 74), .bool true, (U0 76), (U0 77), (U0 78), (U0 79), (U0 80), (U0 81), (U0 82), (U0 83), (U0 84), (U0 85), (U0 86), (U0 87), (U0 88), (U0 89), (U0 90), (U0 91), (U0 92), (U0 93), (U0 94), (U0 95), (U0 96), (U0 97), (U0 98)]) (by kernel_rfl) ?_
                    refine h17 _ _ ?_
                    refine wp_ret ?_
                    try simp only [Exit.then, Exit.inBlock]
                    refine ret1 (v := .bool false) rfl (by kernel_rfl) ?_
                    have e8 : okV ps vs (k + 1) = false := Bool.eq_false_iff.2 (fun h9 => by
                      have h8 := (okV_iff hx25).1 h9
                      obtain ⟨⟨hA, hB⟩, hC, hD⟩ := h8
                      obtain ⟨hC0, p9, hp9, hC1⟩ := endAt_pos hC
                      have hB' := of_decide_eq_true ((above_next hx62).symm.trans hB)
                      obtain rfl := Option.some.inj (hp9.symm.trans hx78)
                      first | omega | (rw [inB_iff.2 hA] at q59; cases q59))
                    exact ⟨ret_bool (goodV_bad (k := k + 1) (by omega) e8).symm, c90⟩
                  · refine W.sq (v := .bool false) rfl (r_neq (m := x77.to) (n := x24.node) rfl (by kernel_rfl) (by kernel_rfl) (decide_eq_false q88)) (by kernel_rfl) rfl rfl ?_
                    refine W.sq (v := .bool false) rfl (r_pick (b := true) rfl (by kernel_rfl) (by kernel_rfl)) (by kernel_rfl) rfl rfl ?_
                    refine W.sq (v := .bool false) rfl (r_pick (b := false) rfl (by kernel_rfl) (by kernel_rfl)) (by kernel_rfl) rfl rfl ?_
                    refine W.sch_endU (fun U91 => [.agg #[.int .i64 m, .slice A n c], .slice A2 n2 c2, .pointer (some ⟨b2, 0, none⟩), undef, .bool false, .int .i64 (((k + 1) : Nat) : Int), .pointer (some ⟨b34, 0, none⟩), .int .i64 (findL ps x24.pipe), (U0 8), (U18 9), (U18 10), (U18 11), (U18 12), (U18 13), (U18 14), (U18 15), .bool false, (U22 17), (U22 18), (U22 19), .bool true, (U0 21), (U0 22), (U46 23), (U46 24), (U46 25), (U46 26), (U52 27), (U52 28), (U52 29), (U52 30), U91 31, U91 32, U91 33, U91 34, U91 35, U91 36, U91 37, U91 38, U91 39, U91 40, U91 41, U91 42, U91 43, U91 44, U91 45, U91 46, U91 47, U91 48, U91 49, U91 50, U91 51, U91 52, U91 53, U91 54, U91 55, U91 56, U91 57, U91 58, U91 59, U91 60, U91 61, U91 62, U91 63, U91 64, U91 65, U91 66, U91 67, U91 68, U91 69, U91 70, U91 71, U91 72, U91 73, U91 74, .bool false, (U0 76), (U0 77), (U0 78), (U0 79), (U0 80), (U0 81), (U0 82), (U0 83), (U0 84), (U0 85), (U0 86), (U0 87), (U0 88), (U0 89), (U0 90), (U0 91), (U0 92), (U0 93), (U0 94), (U0 95), (U0 96), (U0 97), (U0 98)]) (by kernel_rfl) (fun U91 => ?_)
                    have x6 := SG.blk s56 x6 (by simp)
                    have x44 := SG.blk s56 x44 (by simp)
                    have c92 := (SG.belowR c53 s56 (fun kq e => by cases e))
                    refine h14 _ _ ?_
                    refine wp_cond_false (by kernel_rfl) ?_
                    refine wp_skip ?_
                    refine h13 _ _ ?_
                    refine wp_seq_k (fun K18 h18 => ?_)
                    refine W.region_quiet [(0, false)] (by kernel_rfl) ?_
                    refine W.sq (v := .int .i64 0) rfl (r_assign rfl (by kernel_rfl)) (by kernel_rfl) rfl rfl ?_
                    refine W.sch_end (l' := [.agg #[.int .i64 m, .slice A n c], .slice A2 n2 c2, .pointer (some ⟨b2, 0, none⟩), undef, .bool false, .int .i64 (((k + 1) : Nat) : Int), .pointer (some ⟨b34, 0, none⟩), .int .i64 (findL ps x24.pipe), .int .i64 0, (U18 9), (U18 10), (U18 11), (U18 12), (U18 13), (U18 14), (U18 15), .bool false, (U22 17), (U22 18), (U22 19), .bool true, (U0 21), (U0 22), (U46 23), (U46 24), (U46 25), (U46 26), (U52 27), (U52 28), (U52 29), (U52 30), (U91 31), (U91 32), (U91 33), (U91 34), (U91 35), (U91 36), (U91 37), (U91 38), (U91 39), (U91 40), (U91 41), (U91 42), (U91 43), (U91 44), (U91 45), (U91 46), (U91 47), (U91 48), (U91 49), (U91 50), (U91 51), (U91 52), (U91 53), (U91 54), (U91 55), (U91 56), (U91 57), (U91 58), (U91 59), (U91 60), (U91 61), (U91 62), (U91 63), (U91 64), (U91 65), (U91 66), (U91 67), (U91 68), (U91 69), (U91 70), (U91 71), (U91 72), (U91 73), (U91 74), .bool false, (U0 76), (U0 77), (U0 78), (U0 79), (U0 80), (U0 81), (U0 82), (U0 83), (U0 84), (U0 85), (U0 86), (U0 87), (U0 88), (U0 89), (U0 90), (U0 91), (U0 92), (U0 93), (U0 94), (U0 95), (U0 96), (U0 97), (U0 98)]) (by kernel_rfl) ?_
                    refine h18 _ _ ?_
                    refine wp_block ?_
                    refine loopK (fun am1 aa1 wl1 => ∃ (j : Nat) (U1 : Nat → Value), aa1 = ⟨[.agg #[.int .i64 m, .slice A n c], .slice A2 n2 c2, .pointer (some ⟨b2, 0, none⟩), undef, .bool false, .int .i64 (((k + 1) : Nat) : Int), .pointer (some ⟨b34, 0, none⟩), .int .i64 (findL ps x24.pipe), .int .i64 ((j : Nat) : Int), (U18 9), (U18 10), (U18 11), (U18 12), (U18 13), (U18 14), (U18 15), .bool false, (U22 17), (U22 18), (U22 19), .bool true, (U0 21), (U0 22), (U46 23), (U46 24), (U46 25), (U46 26), (U52 27), (U52 28), (U52 29), (U52 30), (U91 31), (U91 32), (U91 33), (U91 34), (U91 35), (U91 36), (U91 37), (U91 38), (U91 39), (U91 40), (U91 41), (U91 42), (U91 43), (U91 44), (U91 45), (U91 46), (U91 47), (U91 48), (U91 49), (U91 50), (U91 51), (U91 52), (U91 53), (U91 54), (U91 55), (U91 56), (U91 57), (U91 58), (U91 59), (U91 60), (U91 61), (U91 62), (U91 63), (U91 64), (U91 65), (U91 66), (U91 67), (U91 68), (U91 69), (U91 70), (U91 71), (U91 72), (U91 73), (U91 74), .bool false, U1 76, U1 77, U1 78, U1 79, U1 80, U1 81, U1 82, U1 83, U1 84, U1 85, U1 86, U1 87, U1 88, U1 89, U1 90, U1 91, U1 92, U1 93, U1 94, U1 95, U1 96, U1 97, U1 98].toArray, []⟩ ∧ (am1 = (k + 1) - j) ∧ (j ≤ k + 1) ∧ (∀ i z, i < j → vs[i]? = some z → ¬ (z.pipe = x24.pipe ∧ z.node = x24.node)) ∧ (wl1.heap[b2]? = some (.cells #[.int .i64 m, .slice A n c] 32 (0, 0))) ∧ (wl1.heap[b34]? = some (.cells #[.int .i64 x24.id, .int .i64 x24.pipe, .int .i64 x24.node, .bool x24.shut] 60 (0, 0))) ∧ (Below w.heap.size w wl1)) ((k + 1) - 0) ?_ ?_
                    · exact ⟨0, (fun iU9 => [.agg #[.int .i64 m, .slice A n c], .slice A2 n2 c2, .pointer (some ⟨b2, 0, none⟩), undef, .bool false, .int .i64 (((k + 1) : Nat) : Int), .pointer (some ⟨b34, 0, none⟩), .int .i64 (findL ps x24.pipe), .int .i64 0, (U18 9), (U18 10), (U18 11), (U18 12), (U18 13), (U18 14), (U18 15), .bool false, (U22 17), (U22 18), (U22 19), .bool true, (U0 21), (U0 22), (U46 23), (U46 24), (U46 25), (U46 26), (U52 27), (U52 28), (U52 29), (U52 30), (U91 31), (U91 32), (U91 33), (U91 34), (U91 35), (U91 36), (U91 37), (U91 38), (U91 39), (U91 40), (U91 41), (U91 42), (U91 43), (U91 44), (U91 45), (U91 46), (U91 47), (U91 48), (U91 49), (U91 50), (U91 51), (U91 52), (U91 53), (U91 54), (U91 55), (U91 56), (U91 57), (U91 58), (U91 59), (U91 60), (U91 61), (U91 62), (U91 63), (U91 64), (U91 65), (U91 66), (U91 67), (U91 68), (U91 69), (U91 70), (U91 71), (U91 72), (U91 73), (U91 74), .bool false, (U0 76), (U0 77), (U0 78), (U0 79), (U0 80), (U0 81), (U0 82), (U0 83), (U0 84), (U0 85), (U0 86), (U0 87), (U0 88), (U0 89), (U0 90), (U0 91), (U0 92), (U0 93), (U0 94), (U0 95), (U0 96), (U0 97), (U0 98)].getD iU9 undef), (by kernel_rfl), rfl, (Nat.zero_le _), (fun i z hi => absurd hi (by omega)), x6, x44, c92⟩
                    rintro am1 aa1 wl1 K19 h19 ⟨j, U1, rfl, rfl, hj, hno, x6, x44, c93⟩
                    refine wp_seq_k (fun K20 h20 => ?_)
                    refine wp_seq_k (fun K21 h21 => ?_)
                    refine W.region_quiet [(0, false), (1, false), (2, false)] (by kernel_rfl) ?_
                    refine W.sq (v := .int .i64 ((j : Nat) : Int)) rfl (r_move rfl (by kernel_rfl)) (by kernel_rfl) rfl rfl ?_
                    refine W.sq (v := .int .i64 (((k + 1) : Nat) : Int)) rfl (r_move rfl (by kernel_rfl)) (by kernel_rfl) rfl rfl ?_
                    by_cases q94 : (((j : Nat) : Int) : Int) < ((((k + 1) : Nat) : Int) : Int)
                    · refine W.sq (v := .bool true) rfl (r_lss (m := ((j : Nat) : Int)) (n := (((k + 1) : Nat) : Int)) rfl (by kernel_rfl) (by kernel_rfl) (decide_eq_true q94)) (by kernel_rfl) rfl rfl ?_
                      refine W.sch_endU (fun U95 => [.agg #[.int .i64 m, .slice A n c], .slice A2 n2 c2, .pointer (some ⟨b2, 0, none⟩), undef, .bool false, .int .i64 (((k + 1) : Nat) : Int), .pointer (some ⟨b34, 0, none⟩), .int .i64 (findL ps x24.pipe), .int .i64 ((j : Nat) : Int), (U18 9), (U18 10), (U18 11), (U18 12), (U18 13), (U18 14), (U18 15), .bool false, (U22 17), (U22 18), (U22 19), .bool true, (U0 21), (U0 22), (U46 23), (U46 24), (U46 25), (U46 26), (U52 27), (U52 28), (U52 29), (U52 30), (U91 31), (U91 32), (U91 33), (U91 34), (U91 35), (U91 36), (U91 37), (U91 38), (U91 39), (U91 40), (U91 41), (U91 42), (U91 43), (U91 44), (U91 45), (U91 46), (U91 47), (U91 48), (U91 49), (U91 50), (U91 51), (U91 52), (U91 53), (U91 54), (U91 55), (U91 56), (U91 57), (U91 58), (U91 59), (U91 60), (U91 61), (U91 62), (U91 63), (U91 64), (U91 65), (U91 66), (U91 67), (U91 68), (U91 69), (U91 70), (U91 71), (U91 72), (U91 73), (U91 74), .bool false, U95 76, U95 77, .bool true, (U1 79), (U1 80), (U1 81), (U1 82), (U1 83), (U1 84), (U1 85), (U1 86), (U1 87), (U1 88), (U1 89), (U1 90), (U1 91), (U1 92), (U1 93), (U1 94), (U1 95), (U1 96), (U1 97), (U1 98)]) (by kernel_rfl) (fun U95 => ?_)
                      refine h21 _ _ ?_
                      refine wp_cond_true (by kernel_rfl) ?_
                      refine wp_skip ?_
                      refine h20 _ _ ?_
                      refine wp_seq_k (fun K22 h22 => ?_)
                      refine wp_block ?_
                      refine wp_seq_k (fun K23 h23 => ?_)
                      refine W.region_sch (row := none) (Sch.of [(0, false), (1, false), (2, false), (3, false), (4, false), (5, false), (6, false), (7, false), (8, false), (9, false), (10, false), (11, false), (12, false), (13, false), (14, false), (15, false), (16, false), (17, false)]) (by kernel_rfl) (by kernel_rfl) (fun _ d _ _ _ h => by cases d <;> exact h) (by kernel_rfl) (fun w96 e97 s98 => ?_)
                      refine W.sq (v := .slice A2 n2 c2) rfl (r_move rfl (by kernel_rfl)) (by kernel_rfl) rfl rfl ?_
                      refine W.sq (v := .int .i64 ((j : Nat) : Int)) rfl (r_move rfl (by kernel_rfl)) (by kernel_rfl) rfl rfl ?_
                      obtain ⟨x99, hx100⟩ := get_of (zs := vs) (k := j) (by have := hl2; omega)
                      obtain ⟨b101, o102, hA103, hb104, hc105, hc106, hc107, hc108⟩ := Rd.elValve hb hx100
                      refine W.sq (v := .pointer (some ⟨b101, o102 + j * 4, none⟩)) rfl (r_idx (n := n2) (c := c2) (k := j) rfl (by kernel_rfl) hA103 (by kernel_rfl) (by kernel_rfl) (by have := hl2; omega)) (by kernel_rfl) rfl rfl ?_
                      refine W.sq (v := .pointer (some ⟨b101, o102 + j * 4 + 1, none⟩)) rfl (r_field (k := 1) rfl (by kernel_rfl) (by kernel_rfl)) (by kernel_rfl) rfl rfl ?_
                      refine W.sq (v := .int .i64 x99.pipe) rfl (r_load rfl (by kernel_rfl) (by kernel_rfl) (sgS (later c93 hc106) (by simp))) (by kernel_rfl) rfl rfl ?_
                      refine W.sq (v := .pointer (some ⟨b34, 1, none⟩)) rfl (r_field (k := 1) rfl (by kernel_rfl) (by kernel_rfl)) (by kernel_rfl) rfl rfl ?_
                      refine W.sq (v := .int .i64 x24.pipe) rfl (r_load rfl (by kernel_rfl) (by kernel_rfl) (sgS (blk_cell (j := 1) x44 (by kernel_rfl)) (by simp))) (by kernel_rfl) rfl rfl ?_
                      by_cases q109 : (x99.pipe : Int) = (x24.pipe : Int)
                      · refine W.sq (v := .bool true) rfl (r_eql (m := x99.pipe) (n := x24.pipe) rfl (by kernel_rfl) (by kernel_rfl) (decide_eq_true q109)) (by kernel_rfl) rfl rfl ?_
                        refine W.sq (v := .bool true) rfl (r_move rfl (by kernel_rfl)) (by kernel_rfl) rfl rfl ?_
                        refine W.sq (v := .slice A2 n2 c2) rfl (r_move rfl (by kernel_rfl)) (by kernel_rfl) rfl rfl ?_
                        refine W.sq (v := .int .i64 ((j : Nat) : Int)) rfl (r_move rfl (by kernel_rfl)) (by kernel_rfl) rfl rfl ?_
                        refine W.sq (v := .pointer (some ⟨b101, o102 + j * 4, none⟩)) rfl (r_idx (n := n2) (c := c2) (k := j) rfl (by kernel_rfl) hA103 (by kernel_rfl) (by kernel_rfl) (by have := hl2; omega)) (by kernel_rfl) rfl rfl ?_
                        refine W.sq (v := .pointer (some ⟨b101, o102 + j * 4 + 2, none⟩)) rfl (r_field (k := 2) rfl (by kernel_rfl) (by kernel_rfl)) (by kernel_rfl) rfl rfl ?_
                        refine W.sq (v := .int .i64 x99.node) rfl (r_load rfl (by kernel_rfl) (by kernel_rfl) (sgS (later c93 hc107) (by simp))) (by kernel_rfl) rfl rfl ?_
                        refine W.sq (v := .pointer (some ⟨b34, 2, none⟩)) rfl (r_field (k := 2) rfl (by kernel_rfl) (by kernel_rfl)) (by kernel_rfl) rfl rfl ?_
                        refine W.sq (v := .int .i64 x24.node) rfl (r_load rfl (by kernel_rfl) (by kernel_rfl) (sgS (blk_cell (j := 2) x44 (by kernel_rfl)) (by simp))) (by kernel_rfl) rfl rfl ?_
                        by_cases q110 : (x99.node : Int) = (x24.node : Int)
                        · refine W.sq (v := .bool true) rfl (r_eql (m := x99.node) (n := x24.node) rfl (by kernel_rfl) (by kernel_rfl) (decide_eq_true q110)) (by kernel_rfl) rfl rfl ?_
                          refine W.sq (v := .bool true) rfl (r_pick (b := true) rfl (by kernel_rfl) (by kernel_rfl)) (by kernel_rfl) rfl rfl ?_
                          refine W.sch_endU (fun U111 => [.agg #[.int .i64 m, .slice A n c], .slice A2 n2 c2, .pointer (some ⟨b2, 0, none⟩), undef, .bool false, .int .i64 (((k + 1) : Nat) : Int), .pointer (some ⟨b34, 0, none⟩), .int .i64 (findL ps x24.pipe), .int .i64 ((j : Nat) : Int), (U18 9), (U18 10), (U18 11), (U18 12), (U18 13), (U18 14), (U18 15), .bool false, (U22 17), (U22 18), (U22 19), .bool true, (U0 21), (U0 22), (U46 23), (U46 24), (U46 25), (U46 26), (U52 27), (U52 28), (U52 29), (U52 30), (U91 31), (U91 32), (U91 33), (U91 34), (U91 35), (U91 36), (U91 37), (U91 38), (U91 39), (U91 40), (U91 41), (U91 42), (U91 43), (U91 44), (U91 45), (U91 46), (U91 47), (U91 48), (U91 49), (U91 50), (U91 51), (U91 52), (U91 53), (U91 54), (U91 55), (U91 56), (U91 57), (U91 58), (U91 59), (U91 60), (U91 61), (U91 62), (U91 63), (U91 64), (U91 65), (U91 66), (U91 67), (U91 68), (U91 69), (U91 70), (U91 71), (U91 72), (U91 73), (U91 74), .bool false, (U95 76), (U95 77), .bool true, (U1 79), (U1 80), U111 81, U111 82, U111 83, U111 84, U111 85, U111 86, U111 87, U111 88, U111 89, U111 90, U111 91, U111 92, U111 93, U111 94, U111 95, U111 96, U111 97, .bool true]) (by kernel_rfl) (fun U111 => ?_)
                          have x6 := SG.blk s98 x6 (by simp)
                          have x44 := SG.blk s98 x44 (by simp)
                          have c112 := (SG.belowR c93 s98 (fun kq e => by cases e))
                          refine h23 _ _ ?_
                          refine wp_cond_true (by kernel_rfl) ?_
                          refine wp_seq_k (fun K24 h24 => ?_)
                          refine W.region_quiet [(0, false)] (by kernel_rfl) ?_
                          refine W.sq (v := .bool false) rfl (r_assign rfl (by kernel_rfl)) (by kernel_rfl) rfl rfl ?_
                          refine W.sch_end (l' := [.agg #[.int .i64 m, .slice A n c], .slice A2 n2 c2, .pointer (some ⟨b2, 0, none⟩), undef, .bool false, .int .i64 (((k + 1) : Nat) : Int), .pointer (some ⟨b34, 0, none⟩), .int .i64 (findL ps x24.pipe), .int .i64 ((j : Nat) : Int), (U18 9), (U18 10), (U18 11), (U18 12), (U18 13), (U18 14), (U18 15), .bool false, (U22 17), (U22 18), (U22 19), .bool true, (U0 21), (U0 22), (U46 23), (U46 24), (U46 25), (U46 26), (U52 27), (U52 28), (U52 29), (U52 30), (U91 31), (U91 32), (U91 33), (U91 34), (U91 35), (U91 36), (U91 37), (U91 38), (U91 39), (U91 40), (U91 41), (U91 42), (U91 43), (U91 44), (U91 45), (U91 46), (U91 47), (U91 48), (U91 49), (U91 50), (U91 51), (U91 52), (U91 53), (U91 54), (U91 55), (U91 56), (U91 57), (U91 58), (U91 59), (U91 60), (U91 61), (U91 62), (U91 63), (U91 64), (U91 65), (U91 66), (U91 67), (U91 68), (U91 69), (U91 70), (U91 71), (U91 72), (U91 73), (U91 74), .bool false, (U95 76), (U95 77), .bool true, (U1 79), (U1 80), (U111 81), (U111 82), (U111 83), (U111 84), (U111 85), (U111 86), (U111 87), (U111 88), (U111 89), (U111 90), (U111 91), (U111 92), (U111 93), (U111 94), (U111 95), (U111 96), (U111 97), .bool true]) (by kernel_rfl) ?_
                          refine h24 _ _ ?_
                          refine wp_ret ?_
                          try simp only [Exit.then, Exit.inBlock]
                          refine ret1 (v := .bool false) rfl (by kernel_rfl) ?_
                          have e8 : okV ps vs (k + 1) = false := Bool.eq_false_iff.2 (fun h9 => by
                            have h8 := (okV_iff hx25).1 h9
                            obtain ⟨⟨hA, hB⟩, hC, hD⟩ := h8
                            obtain ⟨hC0, p9, hp9, hC1⟩ := endAt_pos hC
                            have hB' := of_decide_eq_true ((above_next hx62).symm.trans hB)
                            obtain rfl := Option.some.inj (hp9.symm.trans hx78)
                            exact absurd (placed_yes (k := k + 1) (a := x24.pipe) (b := x24.node) hx100 (by omega) q109 q110) (by rw [hD]; simp))
                          exact ⟨ret_bool (goodV_bad (k := k + 1) (by omega) e8).symm, c112⟩
                        · refine W.sq (v := .bool false) rfl (r_eql (m := x99.node) (n := x24.node) rfl (by kernel_rfl) (by kernel_rfl) (decide_eq_false q110)) (by kernel_rfl) rfl rfl ?_
                          refine W.sq (v := .bool false) rfl (r_pick (b := true) rfl (by kernel_rfl) (by kernel_rfl)) (by kernel_rfl) rfl rfl ?_
                          refine W.sch_endU (fun U113 => [.agg #[.int .i64 m, .slice A n c], .slice A2 n2 c2, .pointer (some ⟨b2, 0, none⟩), undef, .bool false, .int .i64 (((k + 1) : Nat) : Int), .pointer (some ⟨b34, 0, none⟩), .int .i64 (findL ps x24.pipe), .int .i64 ((j : Nat) : Int), (U18 9), (U18 10), (U18 11), (U18 12), (U18 13), (U18 14), (U18 15), .bool false, (U22 17), (U22 18), (U22 19), .bool true, (U0 21), (U0 22), (U46 23), (U46 24), (U46 25), (U46 26), (U52 27), (U52 28), (U52 29), (U52 30), (U91 31), (U91 32), (U91 33), (U91 34), (U91 35), (U91 36), (U91 37), (U91 38), (U91 39), (U91 40), (U91 41), (U91 42), (U91 43), (U91 44), (U91 45), (U91 46), (U91 47), (U91 48), (U91 49), (U91 50), (U91 51), (U91 52), (U91 53), (U91 54), (U91 55), (U91 56), (U91 57), (U91 58), (U91 59), (U91 60), (U91 61), (U91 62), (U91 63), (U91 64), (U91 65), (U91 66), (U91 67), (U91 68), (U91 69), (U91 70), (U91 71), (U91 72), (U91 73), (U91 74), .bool false, (U95 76), (U95 77), .bool true, (U1 79), (U1 80), U113 81, U113 82, U113 83, U113 84, U113 85, U113 86, U113 87, U113 88, U113 89, U113 90, U113 91, U113 92, U113 93, U113 94, U113 95, U113 96, U113 97, .bool false]) (by kernel_rfl) (fun U113 => ?_)
                          have x6 := SG.blk s98 x6 (by simp)
                          have x44 := SG.blk s98 x44 (by simp)
                          have c114 := (SG.belowR c93 s98 (fun kq e => by cases e))
                          refine h23 _ _ ?_
                          refine wp_cond_false (by kernel_rfl) ?_
                          refine wp_skip ?_
                          refine h22 _ _ ?_
                          refine W.region_quiet [(0, false), (1, false), (2, false)] (by kernel_rfl) ?_
                          refine W.sq (v := .int .i64 ((j : Nat) : Int)) rfl (r_move rfl (by kernel_rfl)) (by kernel_rfl) rfl rfl ?_
                          refine W.sq (v := .int .i64 ((j + 1 : Nat) : Int)) rfl (r_add (m := ((j : Nat) : Int)) (n := 1) (z := ((j + 1 : Nat) : Int)) rfl (by kernel_rfl) (by kernel_rfl) (by omega) (by omega)) (by kernel_rfl) rfl rfl ?_
                          refine W.sq (v := .int .i64 ((j + 1 : Nat) : Int)) rfl (r_assign rfl (by kernel_rfl)) (by kernel_rfl) rfl rfl ?_
                          refine W.sch_endU (fun U115 => [.agg #[.int .i64 m, .slice A n c], .slice A2 n2 c2, .pointer (some ⟨b2, 0, none⟩), undef, .bool false, .int .i64 (((k + 1) : Nat) : Int), .pointer (some ⟨b34, 0, none⟩), .int .i64 (findL ps x24.pipe), .int .i64 ((j + 1 : Nat) : Int), (U18 9), (U18 10), (U18 11), (U18 12), (U18 13), (U18 14), (U18 15), .bool false, (U22 17), (U22 18), (U22 19), .bool true, (U0 21), (U0 22), (U46 23), (U46 24), (U46 25), (U46 26), (U52 27), (U52 28), (U52 29), (U52 30), (U91 31), (U91 32), (U91 33), (U91 34), (U91 35), (U91 36), (U91 37), (U91 38), (U91 39), (U91 40), (U91 41), (U91 42), (U91 43), (U91 44), (U91 45), (U91 46), (U91 47), (U91 48), (U91 49), (U91 50), (U91 51), (U91 52), (U91 53), (U91 54), (U91 55), (U91 56), (U91 57), (U91 58), (U91 59), (U91 60), (U91 61), (U91 62), (U91 63), (U91 64), (U91 65), (U91 66), (U91 67), (U91 68), (U91 69), (U91 70), (U91 71), (U91 72), (U91 73), (U91 74), .bool false, (U95 76), (U95 77), .bool true, U115 79, U115 80, (U113 81), (U113 82), (U113 83), (U113 84), (U113 85), (U113 86), (U113 87), (U113 88), (U113 89), (U113 90), (U113 91), (U113 92), (U113 93), (U113 94), (U113 95), (U113 96), (U113 97), .bool false]) (by kernel_rfl) (fun U115 => ?_)
                          exact h19 _ _ _ (by omega : ((k + 1) - (j + 1)) < _) ⟨j + 1, (fun iU9 => [.agg #[.int .i64 m, .slice A n c], .slice A2 n2 c2, .pointer (some ⟨b2, 0, none⟩), undef, .bool false, .int .i64 (((k + 1) : Nat) : Int), .pointer (some ⟨b34, 0, none⟩), .int .i64 (findL ps x24.pipe), .int .i64 ((j + 1 : Nat) : Int), (U18 9), (U18 10), (U18 11), (U18 12), (U18 13), (U18 14), (U18 15), .bool false, (U22 17), (U22 18), (U22 19), .bool true, (U0 21), (U0 22), (U46 23), (U46 24), (U46 25), (U46 26), (U52 27), (U52 28), (U52 29), (U52 30), (U91 31), (U91 32), (U91 33), (U91 34), (U91 35), (U91 36), (U91 37), (U91 38), (U91 39), (U91 40), (U91 41), (U91 42), (U91 43), (U91 44), (U91 45), (U91 46), (U91 47), (U91 48), (U91 49), (U91 50), (U91 51), (U91 52), (U91 53), (U91 54), (U91 55), (U91 56), (U91 57), (U91 58), (U91 59), (U91 60), (U91 61), (U91 62), (U91 63), (U91 64), (U91 65), (U91 66), (U91 67), (U91 68), (U91 69), (U91 70), (U91 71), (U91 72), (U91 73), (U91 74), .bool false, (U95 76), (U95 77), .bool true, (U115 79), (U115 80), (U113 81), (U113 82), (U113 83), (U113 84), (U113 85), (U113 86), (U113 87), (U113 88), (U113 89), (U113 90), (U113 91), (U113 92), (U113 93), (U113 94), (U113 95), (U113 96), (U113 97), .bool false].getD iU9 undef), (by kernel_rfl), rfl, (by omega), (upto_succ (Q := fun z => ¬ (z.pipe = x24.pipe ∧ z.node = x24.node)) hno hx100 (by omega)), x6, x44, c114⟩
                      · refine W.sq (v := .bool false) rfl (r_eql (m := x99.pipe) (n := x24.pipe) rfl (by kernel_rfl) (by kernel_rfl) (decide_eq_false q109)) (by kernel_rfl) rfl rfl ?_
                        refine W.sq (v := .bool false) rfl (r_move rfl (by kernel_rfl)) (by kernel_rfl) rfl rfl ?_
                        refine W.sk s98 rfl (by kernel_rfl) rfl rfl ?_
                        refine W.sk s98 rfl (by kernel_rfl) rfl rfl ?_
                        refine W.sk s98 rfl (by kernel_rfl) rfl rfl ?_
                        refine W.sk s98 rfl (by kernel_rfl) rfl rfl ?_
                        refine W.sk s98 rfl (by kernel_rfl) rfl rfl ?_
                        refine W.sk s98 rfl (by kernel_rfl) rfl rfl ?_
                        refine W.sk s98 rfl (by kernel_rfl) rfl rfl ?_
                        refine W.sk s98 rfl (by kernel_rfl) rfl rfl ?_
                        refine W.sq (v := .bool false) rfl (r_pick (b := false) rfl (by kernel_rfl) (by kernel_rfl)) (by kernel_rfl) rfl rfl ?_
                        refine W.sch_endU (fun U116 => [.agg #[.int .i64 m, .slice A n c], .slice A2 n2 c2, .pointer (some ⟨b2, 0, none⟩), undef, .bool false, .int .i64 (((k + 1) : Nat) : Int), .pointer (some ⟨b34, 0, none⟩), .int .i64 (findL ps x24.pipe), .int .i64 ((j : Nat) : Int), (U18 9), (U18 10), (U18 11), (U18 12), (U18 13), (U18 14), (U18 15), .bool false, (U22 17), (U22 18), (U22 19), .bool true, (U0 21), (U0 22), (U46 23), (U46 24), (U46 25), (U46 26), (U52 27), (U52 28), (U52 29), (U52 30), (U91 31), (U91 32), (U91 33), (U91 34), (U91 35), (U91 36), (U91 37), (U91 38), (U91 39), (U91 40), (U91 41), (U91 42), (U91 43), (U91 44), (U91 45), (U91 46), (U91 47), (U91 48), (U91 49), (U91 50), (U91 51), (U91 52), (U91 53), (U91 54), (U91 55), (U91 56), (U91 57), (U91 58), (U91 59), (U91 60), (U91 61), (U91 62), (U91 63), (U91 64), (U91 65), (U91 66), (U91 67), (U91 68), (U91 69), (U91 70), (U91 71), (U91 72), (U91 73), (U91 74), .bool false, (U95 76), (U95 77), .bool true, (U1 79), (U1 80), U116 81, U116 82, U116 83, U116 84, U116 85, U116 86, U116 87, U116 88, U116 89, undef, undef, undef, undef, undef, undef, undef, undef, .bool false]) (by kernel_rfl) (fun U116 => ?_)
                        have x6 := SG.blk s98 x6 (by simp)
                        have x44 := SG.blk s98 x44 (by simp)
                        have c117 := (SG.belowR c93 s98 (fun kq e => by cases e))
                        refine h23 _ _ ?_
                        refine wp_cond_false (by kernel_rfl) ?_
                        refine wp_skip ?_
                        refine h22 _ _ ?_
                        refine W.region_quiet [(0, false), (1, false), (2, false)] (by kernel_rfl) ?_
                        refine W.sq (v := .int .i64 ((j : Nat) : Int)) rfl (r_move rfl (by kernel_rfl)) (by kernel_rfl) rfl rfl ?_
                        refine W.sq (v := .int .i64 ((j + 1 : Nat) : Int)) rfl (r_add (m := ((j : Nat) : Int)) (n := 1) (z := ((j + 1 : Nat) : Int)) rfl (by kernel_rfl) (by kernel_rfl) (by omega) (by omega)) (by kernel_rfl) rfl rfl ?_
                        refine W.sq (v := .int .i64 ((j + 1 : Nat) : Int)) rfl (r_assign rfl (by kernel_rfl)) (by kernel_rfl) rfl rfl ?_
                        refine W.sch_endU (fun U118 => [.agg #[.int .i64 m, .slice A n c], .slice A2 n2 c2, .pointer (some ⟨b2, 0, none⟩), undef, .bool false, .int .i64 (((k + 1) : Nat) : Int), .pointer (some ⟨b34, 0, none⟩), .int .i64 (findL ps x24.pipe), .int .i64 ((j + 1 : Nat) : Int), (U18 9), (U18 10), (U18 11), (U18 12), (U18 13), (U18 14), (U18 15), .bool false, (U22 17), (U22 18), (U22 19), .bool true, (U0 21), (U0 22), (U46 23), (U46 24), (U46 25), (U46 26), (U52 27), (U52 28), (U52 29), (U52 30), (U91 31), (U91 32), (U91 33), (U91 34), (U91 35), (U91 36), (U91 37), (U91 38), (U91 39), (U91 40), (U91 41), (U91 42), (U91 43), (U91 44), (U91 45), (U91 46), (U91 47), (U91 48), (U91 49), (U91 50), (U91 51), (U91 52), (U91 53), (U91 54), (U91 55), (U91 56), (U91 57), (U91 58), (U91 59), (U91 60), (U91 61), (U91 62), (U91 63), (U91 64), (U91 65), (U91 66), (U91 67), (U91 68), (U91 69), (U91 70), (U91 71), (U91 72), (U91 73), (U91 74), .bool false, (U95 76), (U95 77), .bool true, U118 79, U118 80, (U116 81), (U116 82), (U116 83), (U116 84), (U116 85), (U116 86), (U116 87), (U116 88), (U116 89), undef, undef, undef, undef, undef, undef, undef, undef, .bool false]) (by kernel_rfl) (fun U118 => ?_)
                        exact h19 _ _ _ (by omega : ((k + 1) - (j + 1)) < _) ⟨j + 1, (fun iU9 => [.agg #[.int .i64 m, .slice A n c], .slice A2 n2 c2, .pointer (some ⟨b2, 0, none⟩), undef, .bool false, .int .i64 (((k + 1) : Nat) : Int), .pointer (some ⟨b34, 0, none⟩), .int .i64 (findL ps x24.pipe), .int .i64 ((j + 1 : Nat) : Int), (U18 9), (U18 10), (U18 11), (U18 12), (U18 13), (U18 14), (U18 15), .bool false, (U22 17), (U22 18), (U22 19), .bool true, (U0 21), (U0 22), (U46 23), (U46 24), (U46 25), (U46 26), (U52 27), (U52 28), (U52 29), (U52 30), (U91 31), (U91 32), (U91 33), (U91 34), (U91 35), (U91 36), (U91 37), (U91 38), (U91 39), (U91 40), (U91 41), (U91 42), (U91 43), (U91 44), (U91 45), (U91 46), (U91 47), (U91 48), (U91 49), (U91 50), (U91 51), (U91 52), (U91 53), (U91 54), (U91 55), (U91 56), (U91 57), (U91 58), (U91 59), (U91 60), (U91 61), (U91 62), (U91 63), (U91 64), (U91 65), (U91 66), (U91 67), (U91 68), (U91 69), (U91 70), (U91 71), (U91 72), (U91 73), (U91 74), .bool false, (U95 76), (U95 77), .bool true, (U118 79), (U118 80), (U116 81), (U116 82), (U116 83), (U116 84), (U116 85), (U116 86), (U116 87), (U116 88), (U116 89), undef, undef, undef, undef, undef, undef, undef, undef, .bool false].getD iU9 undef), (by kernel_rfl), rfl, (by omega), (upto_succ (Q := fun z => ¬ (z.pipe = x24.pipe ∧ z.node = x24.node)) hno hx100 (by omega)), x6, x44, c117⟩
                    · refine W.sq (v := .bool false) rfl (r_lss (m := ((j : Nat) : Int)) (n := (((k + 1) : Nat) : Int)) rfl (by kernel_rfl) (by kernel_rfl) (decide_eq_false q94)) (by kernel_rfl) rfl rfl ?_
                      refine W.sch_endU (fun U119 => [.agg #[.int .i64 m, .slice A n c], .slice A2 n2 c2, .pointer (some ⟨b2, 0, none⟩), undef, .bool false, .int .i64 (((k + 1) : Nat) : Int), .pointer (some ⟨b34, 0, none⟩), .int .i64 (findL ps x24.pipe), .int .i64 ((j : Nat) : Int), (U18 9), (U18 10), (U18 11), (U18 12), (U18 13), (U18 14), (U18 15), .bool false, (U22 17), (U22 18), (U22 19), .bool true, (U0 21), (U0 22), (U46 23), (U46 24), (U46 25), (U46 26), (U52 27), (U52 28), (U52 29), (U52 30), (U91 31), (U91 32), (U91 33), (U91 34), (U91 35), (U91 36), (U91 37), (U91 38), (U91 39), (U91 40), (U91 41), (U91 42), (U91 43), (U91 44), (U91 45), (U91 46), (U91 47), (U91 48), (U91 49), (U91 50), (U91 51), (U91 52), (U91 53), (U91 54), (U91 55), (U91 56), (U91 57), (U91 58), (U91 59), (U91 60), (U91 61), (U91 62), (U91 63), (U91 64), (U91 65), (U91 66), (U91 67), (U91 68), (U91 69), (U91 70), (U91 71), (U91 72), (U91 73), (U91 74), .bool false, U119 76, U119 77, .bool false, (U1 79), (U1 80), (U1 81), (U1 82), (U1 83), (U1 84), (U1 85), (U1 86), (U1 87), (U1 88), (U1 89), (U1 90), (U1 91), (U1 92), (U1 93), (U1 94), (U1 95), (U1 96), (U1 97), (U1 98)]) (by kernel_rfl) (fun U119 => ?_)
                      refine h21 _ _ ?_
                      refine wp_cond_false (by kernel_rfl) ?_
                      refine wp_exit ?_
                      refine h10 _ _ ?_
                      refine W.region_quiet [(0, false), (1, false), (2, false)] (by kernel_rfl) ?_
                      refine W.sq (v := .int .i64 (((k + 1) : Nat) : Int)) rfl (r_move rfl (by kernel_rfl)) (by kernel_rfl) rfl rfl ?_
                      refine W.sq (v := .int .i64 (((k + 1) + 1 : Nat) : Int)) rfl (r_add (m := (((k + 1) : Nat) : Int)) (n := 1) (z := (((k + 1) + 1 : Nat) : Int)) rfl (by kernel_rfl) (by kernel_rfl) (by omega) (by omega)) (by kernel_rfl) rfl rfl ?_
                      refine W.sq (v := .int .i64 (((k + 1) + 1 : Nat) : Int)) rfl (r_assign rfl (by kernel_rfl)) (by kernel_rfl) rfl rfl ?_
                      refine W.sch_endU (fun U120 => [.agg #[.int .i64 m, .slice A n c], .slice A2 n2 c2, .pointer (some ⟨b2, 0, none⟩), undef, .bool false, .int .i64 (((k + 1) + 1 : Nat) : Int), .pointer (some ⟨b34, 0, none⟩), .int .i64 (findL ps x24.pipe), .int .i64 ((j : Nat) : Int), (U18 9), (U18 10), (U18 11), (U18 12), (U18 13), (U18 14), (U18 15), .bool false, (U22 17), (U22 18), (U22 19), .bool true, U120 21, U120 22, (U46 23), (U46 24), (U46 25), (U46 26), (U52 27), (U52 28), (U52 29), (U52 30), (U91 31), (U91 32), (U91 33), (U91 34), (U91 35), (U91 36), (U91 37), (U91 38), (U91 39), (U91 40), (U91 41), (U91 42), (U91 43), (U91 44), (U91 45), (U91 46), (U91 47), (U91 48), (U91 49), (U91 50), (U91 51), (U91 52), (U91 53), (U91 54), (U91 55), (U91 56), (U91 57), (U91 58), (U91 59), (U91 60), (U91 61), (U91 62), (U91 63), (U91 64), (U91 65), (U91 66), (U91 67), (U91 68), (U91 69), (U91 70), (U91 71), (U91 72), (U91 73), (U91 74), .bool false, (U119 76), (U119 77), .bool false, (U1 79), (U1 80), (U1 81), (U1 82), (U1 83), (U1 84), (U1 85), (U1 86), (U1 87), (U1 88), (U1 89), (U1 90), (U1 91), (U1 92), (U1 93), (U1 94), (U1 95), (U1 96), (U1 97), (U1 98)]) (by kernel_rfl) (fun U120 => ?_)
                      exact h7 _ _ _ (by omega : (n2 - (k + 1 + 1)) < _) ⟨k + 1 + 1, (fun iU9 => [.agg #[.int .i64 m, .slice A n c], .slice A2 n2 c2, .pointer (some ⟨b2, 0, none⟩), undef, .bool false, .int .i64 (((k + 1) + 1 : Nat) : Int), .pointer (some ⟨b34, 0, none⟩), .int .i64 (findL ps x24.pipe), .int .i64 ((j : Nat) : Int), (U18 9), (U18 10), (U18 11), (U18 12), (U18 13), (U18 14), (U18 15), .bool false, (U22 17), (U22 18), (U22 19), .bool true, (U120 21), (U120 22), (U46 23), (U46 24), (U46 25), (U46 26), (U52 27), (U52 28), (U52 29), (U52 30), (U91 31), (U91 32), (U91 33), (U91 34), (U91 35), (U91 36), (U91 37), (U91 38), (U91 39), (U91 40), (U91 41), (U91 42), (U91 43), (U91 44), (U91 45), (U91 46), (U91 47), (U91 48), (U91 49), (U91 50), (U91 51), (U91 52), (U91 53), (U91 54), (U91 55), (U91 56), (U91 57), (U91 58), (U91 59), (U91 60), (U91 61), (U91 62), (U91 63), (U91 64), (U91 65), (U91 66), (U91 67), (U91 68), (U91 69), (U91 70), (U91 71), (U91 72), (U91 73), (U91 74), .bool false, (U119 76), (U119 77), .bool false, (U1 79), (U1 80), (U1 81), (U1 82), (U1 83), (U1 84), (U1 85), (U1 86), (U1 87), (U1 88), (U1 89), (U1 90), (U1 91), (U1 92), (U1 93), (U1 94), (U1 95), (U1 96), (U1 97), (U1 98)].getD iU9 undef), (by kernel_rfl), rfl, (by omega), (okVTo_next hok ((okV_iff hx25).2 ⟨⟨inB_iff.1 q59, (by rw [above_next hx62]; exact decide_eq_true (by omega))⟩, endAt_of (by omega) hx78 (by omega), placed_no hno (by omega)⟩)), x6, c93⟩
                · refine W.sq (v := .bool false) rfl (r_neq (m := x77.fr) (n := x24.node) rfl (by kernel_rfl) (by kernel_rfl) (decide_eq_false q87)) (by kernel_rfl) rfl rfl ?_
                  refine W.sq (v := .bool false) rfl (r_move rfl (by kernel_rfl)) (by kernel_rfl) rfl rfl ?_
                  refine W.sk s56 rfl (by kernel_rfl) rfl rfl ?_
                  refine W.sk s56 rfl (by kernel_rfl) rfl rfl ?_
                  refine W.sk s56 rfl (by kernel_rfl) rfl rfl ?_
                  refine W.sk s56 rfl (by kernel_rfl) rfl rfl ?_
                  refine W.sk s56 rfl (by kernel_rfl) rfl rfl ?_
                  refine W.sk s56 rfl (by kernel_rfl) rfl rfl ?_
                  refine W.sk s56 rfl (by kernel_rfl) rfl rfl ?_
                  refine W.sk s56 rfl (by kernel_rfl) rfl rfl ?_
                  refine W.sk s56 rfl (by kernel_rfl) rfl rfl ?_
                  refine W.sq (v := .bool false) rfl (r_pick (b := false) rfl (by kernel_rfl) (by kernel_rfl)) (by kernel_rfl) rfl rfl ?_
                  refine W.sq (v := .bool false) rfl (r_pick (b := false) rfl (by kernel_rfl) (by kernel_rfl)) (by kernel_rfl) rfl rfl ?_
                  refine W.sch_endU (fun U121 => [.agg #[.int .i64 m, .slice A n c], .slice A2 n2 c2, .pointer (some ⟨b2, 0, none⟩), undef, .bool false, .int .i64 (((k + 1) : Nat) : Int), .pointer (some ⟨b34, 0, none⟩), .int .i64 (findL ps x24.pipe), (U0 8), (U18 9), (U18 10), (U18 11), (U18 12), (U18 13), (U18 14), (U18 15), .bool false, (U22 17), (U22 18), (U22 19), .bool true, (U0 21), (U0 22), (U46 23), (U46 24), (U46 25), (U46 26), (U52 27), (U52 28), (U52 29), (U52 30), U121 31, U121 32, U121 33, U121 34, U121 35, U121 36, U121 37, U121 38, U121 39, U121 40, U121 41, U121 42, U121 43, U121 44, U121 45, U121 46, U121 47, U121 48, U121 49, U121 50, U121 51, U121 52, U121 53, U121 54, U121 55, U121 56, U121 57, U121 58, U121 59, U121 60, U121 61, U121 62, U121 63, U121 64, undef, undef, undef, undef, undef, undef, undef, undef, undef, U121 74, .bool false, (U0 76), (U0 77), (U0 78), (U0 79), (U0 80), (U0 81), (U0 82), (U0 83), (U0 84), (U0 85), (U0 86), (U0 87), (U0 88), (U0 89), (U0 90), (U0 91), (U0 92), (U0 93), (U0 94), (U0 95), (U0 96), (U0 97), (U0 98)]) (by kernel_rfl) (fun U121 => ?_)
                  have x6 := SG.blk s56 x6 (by simp)
                  have x44 := SG.blk s56 x44 (by simp)
                  have c122 := (SG.belowR c53 s56 (fun kq e => by cases e))
                  refine h14 _ _ ?_
                  refine wp_cond_false (by kernel_rfl) ?_
                  refine wp_skip ?_
                  refine h13 _ _ ?_
                  refine wp_seq_k (fun K25 h25 => ?_)
                  refine W.region_quiet [(0, false)] (by kernel_rfl) ?_
                  refine W.sq (v := .int .i64 0) rfl (r_assign rfl (by kernel_rfl)) (by kernel_rfl) rfl rfl ?_
                  refine W.sch_end (l' := [.agg #[.int .i64 m, .slice A n c], .slice A2 n2 c2, .pointer (some ⟨b2, 0, none⟩), undef, .bool false, .int .i64 (((k + 1) : Nat) : Int), .pointer (some ⟨b34, 0, none⟩), .int .i64 (findL ps x24.pipe), .int .i64 0, (U18 9), (U18 10), (U18 11), (U18 12), (U18 13), (U18 14), (U18 15), .bool false, (U22 17), (U22 18), (U22 19), .bool true, (U0 21), (U0 22), (U46 23), (U46 24), (U46 25), (U46 26), (U52 27), (U52 28), (U52 29), (U52 30), (U121 31), (U121 32), (U121 33), (U121 34), (U121 35), (U121 36), (U121 37), (U121 38), (U121 39), (U121 40), (U121 41), (U121 42), (U121 43), (U121 44), (U121 45), (U121 46), (U121 47), (U121 48), (U121 49), (U121 50), (U121 51), (U121 52), (U121 53), (U121 54), (U121 55), (U121 56), (U121 57), (U121 58), (U121 59), (U121 60), (U121 61), (U121 62), (U121 63), (U121 64), undef, undef, undef, undef, undef, undef, undef, undef, undef, (U121 74), .bool false, (U0 76), (U0 77), (U0 78), (U0 79), (U0 80), (U0 81), (U0 82), (U0 83), (U0 84), (U0 85), (U0 86), (U0 87), (U0 88), (U0 89), (U0 90), (U0 91), (U0 92), (U0 93), (U0 94), (U0 95), (U0 96), (U0 97), (U0 98)]) (by kernel_rfl) ?_
                  refine h25 _ _ ?_
                  refine wp_block ?_
                  refine loopK (fun am1 aa1 wl1 => ∃ (j : Nat) (U1 : Nat → Value), aa1 = ⟨[.agg #[.int .i64 m, .slice A n c], .slice A2 n2 c2, .pointer (some ⟨b2, 0, none⟩), undef, .bool false, .int .i64 (((k + 1) : Nat) : Int), .pointer (some ⟨b34, 0, none⟩), .int .i64 (findL ps x24.pipe), .int .i64 ((j : Nat) : Int), (U18 9), (U18 10), (U18 11), (U18 12), (U18 13), (U18 14), (U18 15), .bool false, (U22 17), (U22 18), (U22 19), .bool true, (U0 21), (U0 22), (U46 23), (U46 24), (U46 25), (U46 26), (U52 27), (U52 28), (U52 29), (U52 30), (U121 31), (U121 32), (U121 33), (U121 34), (U121 35), (U121 36), (U121 37), (U121 38), (U121 39), (U121 40), (U121 41), (U121 42), (U121 43), (U121 44), (U121 45), (U121 46), (U121 47), (U121 48), (U121 49), (U121 50), (U121 51), (U121 52), (U121 53), (U121 54), (U121 55), (U121 56), (U121 57), (U121 58), (U121 59), (U121 60), (U121 61), (U121 62), (U121 63), (U121 64), undef, undef, undef, undef, undef, undef, undef, undef, undef, (U121 74), .bool false, U1 76, U1 77, U1 78, U1 79, U1 80, U1 81, U1 82, U1 83, U1 84, U1 85, U1 86, U1 87, U1 88, U1 89, U1 90, U1 91, U1 92, U1 93, U1 94, U1 95, U1 96, U1 97, U1 98].toArray, []⟩ ∧ (am1 = (k + 1) - j) ∧ (j ≤ k + 1) ∧ (∀ i z, i < j → vs[i]? = some z → ¬ (z.pipe = x24.pipe ∧ z.node = x24.node)) ∧ (wl1.heap[b2]? = some (.cells #[.int .i64 m, .slice A n c] 32 (0, 0))) ∧ (wl1.heap[b34]? = some (.cells #[.int .i64 x24.id, .int .i64 x24.pipe, .int .i64 x24.node, .bool x24.shut] 60 (0, 0))) ∧ (Below w.heap.size w wl1)) ((k + 1) - 0) ?_ ?_
                  · exact ⟨0, (fun iU9 => [.agg #[.int .i64 m, .slice A n c], .slice A2 n2 c2, .pointer (some ⟨b2, 0, none⟩), undef, .bool false, .int .i64 (((k + 1) : Nat) : Int), .pointer (some ⟨b34, 0, none⟩), .int .i64 (findL ps x24.pipe), .int .i64 0, (U18 9), (U18 10), (U18 11), (U18 12), (U18 13), (U18 14), (U18 15), .bool false, (U22 17), (U22 18), (U22 19), .bool true, (U0 21), (U0 22), (U46 23), (U46 24), (U46 25), (U46 26), (U52 27), (U52 28), (U52 29), (U52 30), (U121 31), (U121 32), (U121 33), (U121 34), (U121 35), (U121 36), (U121 37), (U121 38), (U121 39), (U121 40), (U121 41), (U121 42), (U121 43), (U121 44), (U121 45), (U121 46), (U121 47), (U121 48), (U121 49), (U121 50), (U121 51), (U121 52), (U121 53), (U121 54), (U121 55), (U121 56), (U121 57), (U121 58), (U121 59), (U121 60), (U121 61), (U121 62), (U121 63), (U121 64), undef, undef, undef, undef, undef, undef, undef, undef, undef, (U121 74), .bool false, (U0 76), (U0 77), (U0 78), (U0 79), (U0 80), (U0 81), (U0 82), (U0 83), (U0 84), (U0 85), (U0 86), (U0 87), (U0 88), (U0 89), (U0 90), (U0 91), (U0 92), (U0 93), (U0 94), (U0 95), (U0 96), (U0 97), (U0 98)].getD iU9 undef), (by kernel_rfl), rfl, (Nat.zero_le _), (fun i z hi => absurd hi (by omega)), x6, x44, c122⟩
                  rintro am1 aa1 wl1 K26 h26 ⟨j, U1, rfl, rfl, hj, hno, x6, x44, c123⟩
                  refine wp_seq_k (fun K27 h27 => ?_)
                  refine wp_seq_k (fun K28 h28 => ?_)
                  refine W.region_quiet [(0, false), (1, false), (2, false)] (by kernel_rfl) ?_
                  refine W.sq (v := .int .i64 ((j : Nat) : Int)) rfl (r_move rfl (by kernel_rfl)) (by kernel_rfl) rfl rfl ?_
                  refine W.sq (v := .int .i64 (((k + 1) : Nat) : Int)) rfl (r_move rfl (by kernel_rfl)) (by kernel_rfl) rfl rfl ?_
                  by_cases q124 : (((j : Nat) : Int) : Int) < ((((k + 1) : Nat) : Int) : Int)
                  · refine W.sq (v := .bool true) rfl (r_lss (m := ((j : Nat) : Int)) (n := (((k + 1) : Nat) : Int)) rfl (by kernel_rfl) (by kernel_rfl) (decide_eq_true q124)) (by kernel_rfl) rfl rfl ?_
                    refine W.sch_endU (fun U125 => [.agg #[.int .i64 m, .slice A n c], .slice A2 n2 c2, .pointer (some ⟨b2, 0, none⟩), undef, .bool false, .int .i64 (((k + 1) : Nat) : Int), .pointer (some ⟨b34, 0, none⟩), .int .i64 (findL ps x24.pipe), .int .i64 ((j : Nat) : Int), (U18 9), (U18 10), (U18 11), (U18 12), (U18 13), (U18 14), (U18 15), .bool false, (U22 17), (U22 18), (U22 19), .bool true, (U0 21), (U0 22), (U46 23), (U46 24), (U46 25), (U46 26), (U52 27), (U52 28), (U52 29), (U52 30), (U121 31), (U121 32), (U121 33), (U121 34), (U121 35), (U121 36), (U121 37), (U121 38), (U121 39), (U121 40), (U121 41), (U121 42), (U121 43), (U121 44), (U121 45), (U121 46), (U121 47), (U121 48), (U121 49), (U121 50), (U121 51), (U121 52), (U121 53), (U121 54), (U121 55), (U121 56), (U121 57), (U121 58), (U121 59), (U121 60), (U121 61), (U121 62), (U121 63), (U121 64), undef, undef, undef, undef, undef, undef, undef, undef, undef, (U121 74), .bool false, U125 76, U125 77, .bool true, (U1 79), (U1 80), (U1 81), (U1 82), (U1 83), (U1 84), (U1 85), (U1 86), (U1 87), (U1 88), (U1 89), (U1 90), (U1 91), (U1 92), (U1 93), (U1 94), (U1 95), (U1 96), (U1 97), (U1 98)]) (by kernel_rfl) (fun U125 => ?_)
                    refine h28 _ _ ?_
                    refine wp_cond_true (by kernel_rfl) ?_
                    refine wp_skip ?_
                    refine h27 _ _ ?_
                    refine wp_seq_k (fun K29 h29 => ?_)
                    refine wp_block ?_
                    refine wp_seq_k (fun K30 h30 => ?_)
                    refine W.region_sch (row := none) (Sch.of [(0, false), (1, false), (2, false), (3, false), (4, false), (5, false), (6, false), (7, false), (8, false), (9, false), (10, false), (11, false), (12, false), (13, false), (14, false), (15, false), (16, false), (17, false)]) (by kernel_rfl) (by kernel_rfl) (fun _ d _ _ _ h => by cases d <;> exact h) (by kernel_rfl) (fun w126 e127 s128 => ?_)
                    refine W.sq (v := .slice A2 n2 c2) rfl (r_move rfl (by kernel_rfl)) (by kernel_rfl) rfl rfl ?_
                    refine W.sq (v := .int .i64 ((j : Nat) : Int)) rfl (r_move rfl (by kernel_rfl)) (by kernel_rfl) rfl rfl ?_
                    obtain ⟨x129, hx130⟩ := get_of (zs := vs) (k := j) (by have := hl2; omega)
                    obtain ⟨b131, o132, hA133, hb134, hc135, hc136, hc137, hc138⟩ := Rd.elValve hb hx130
                    refine W.sq (v := .pointer (some ⟨b131, o132 + j * 4, none⟩)) rfl (r_idx (n := n2) (c := c2) (k := j) rfl (by kernel_rfl) hA133 (by kernel_rfl) (by kernel_rfl) (by have := hl2; omega)) (by kernel_rfl) rfl rfl ?_
                    refine W.sq (v := .pointer (some ⟨b131, o132 + j * 4 + 1, none⟩)) rfl (r_field (k := 1) rfl (by kernel_rfl) (by kernel_rfl)) (by kernel_rfl) rfl rfl ?_
                    refine W.sq (v := .int .i64 x129.pipe) rfl (r_load rfl (by kernel_rfl) (by kernel_rfl) (sgS (later c123 hc136) (by simp))) (by kernel_rfl) rfl rfl ?_
                    refine W.sq (v := .pointer (some ⟨b34, 1, none⟩)) rfl (r_field (k := 1) rfl (by kernel_rfl) (by kernel_rfl)) (by kernel_rfl) rfl rfl ?_
                    refine W.sq (v := .int .i64 x24.pipe) rfl (r_load rfl (by kernel_rfl) (by kernel_rfl) (sgS (blk_cell (j := 1) x44 (by kernel_rfl)) (by simp))) (by kernel_rfl) rfl rfl ?_
                    by_cases q139 : (x129.pipe : Int) = (x24.pipe : Int)
                    · refine W.sq (v := .bool true) rfl (r_eql (m := x129.pipe) (n := x24.pipe) rfl (by kernel_rfl) (by kernel_rfl) (decide_eq_true q139)) (by kernel_rfl) rfl rfl ?_
                      refine W.sq (v := .bool true) rfl (r_move rfl (by kernel_rfl)) (by kernel_rfl) rfl rfl ?_
                      refine W.sq (v := .slice A2 n2 c2) rfl (r_move rfl (by kernel_rfl)) (by kernel_rfl) rfl rfl ?_
                      refine W.sq (v := .int .i64 ((j : Nat) : Int)) rfl (r_move rfl (by kernel_rfl)) (by kernel_rfl) rfl rfl ?_
                      refine W.sq (v := .pointer (some ⟨b131, o132 + j * 4, none⟩)) rfl (r_idx (n := n2) (c := c2) (k := j) rfl (by kernel_rfl) hA133 (by kernel_rfl) (by kernel_rfl) (by have := hl2; omega)) (by kernel_rfl) rfl rfl ?_
                      refine W.sq (v := .pointer (some ⟨b131, o132 + j * 4 + 2, none⟩)) rfl (r_field (k := 2) rfl (by kernel_rfl) (by kernel_rfl)) (by kernel_rfl) rfl rfl ?_
                      refine W.sq (v := .int .i64 x129.node) rfl (r_load rfl (by kernel_rfl) (by kernel_rfl) (sgS (later c123 hc137) (by simp))) (by kernel_rfl) rfl rfl ?_
                      refine W.sq (v := .pointer (some ⟨b34, 2, none⟩)) rfl (r_field (k := 2) rfl (by kernel_rfl) (by kernel_rfl)) (by kernel_rfl) rfl rfl ?_
                      refine W.sq (v := .int .i64 x24.node) rfl (r_load rfl (by kernel_rfl) (by kernel_rfl) (sgS (blk_cell (j := 2) x44 (by kernel_rfl)) (by simp))) (by kernel_rfl) rfl rfl ?_
                      by_cases q140 : (x129.node : Int) = (x24.node : Int)
                      · refine W.sq (v := .bool true) rfl (r_eql (m := x129.node) (n := x24.node) rfl (by kernel_rfl) (by kernel_rfl) (decide_eq_true q140)) (by kernel_rfl) rfl rfl ?_
                        refine W.sq (v := .bool true) rfl (r_pick (b := true) rfl (by kernel_rfl) (by kernel_rfl)) (by kernel_rfl) rfl rfl ?_
                        refine W.sch_endU (fun U141 => [.agg #[.int .i64 m, .slice A n c], .slice A2 n2 c2, .pointer (some ⟨b2, 0, none⟩), undef, .bool false, .int .i64 (((k + 1) : Nat) : Int), .pointer (some ⟨b34, 0, none⟩), .int .i64 (findL ps x24.pipe), .int .i64 ((j : Nat) : Int), (U18 9), (U18 10), (U18 11), (U18 12), (U18 13), (U18 14), (U18 15), .bool false, (U22 17), (U22 18), (U22 19), .bool true, (U0 21), (U0 22), (U46 23), (U46 24), (U46 25), (U46 26), (U52 27), (U52 28), (U52 29), (U52 30), (U121 31), (U121 32), (U121 33), (U121 34), (U121 35), (U121 36), (U121 37), (U121 38), (U121 39), (U121 40), (U121 41), (U121 42), (U121 43), (U121 44), (U121 45), (U121 46), (U121 47), (U121 48), (U121 49), (U121 50), (U121 51), (U121 52), (U121 53), (U121 54), (U121 55), (U121 56), (U121 57), (U121 58), (U121 59), (U121 60), (U121 61), (U121 62), (U121 63), (U121 64), undef, undef, undef, undef, undef, undef, undef, undef, undef, (U121 74), .bool false, (U125 76), (U125 77), .bool true, (U1 79), (U1 80), U141 81, U141 82, U141 83, U141 84, U141 85, U141 86, U141 87, U141 88, U141 89, U141 90, U141 91, U141 92, U141 93, U141 94, U141 95, U141 96, U141 97, .bool true]) (by kernel_rfl) (fun U141 => ?_)
                        have x6 := SG.blk s128 x6 (by simp)
                        have x44 := SG.blk s128 x44 (by simp)
                        have c142 := (SG.belowR c123 s128 (fun kq e => by cases e))
                        refine h30 _ _ ?_
                        refine wp_cond_true (by kernel_rfl) ?_
                        refine wp_seq_k (fun K31 h31 => ?_)
                        refine W.region_quiet [(0, false)] (by kernel_rfl) ?_
                        refine W.sq (v := .bool false) rfl (r_assign rfl (by kernel_rfl)) (by kernel_rfl) rfl rfl ?_
                        refine W.sch_end (l' := [.agg #[.int .i64 m, .slice A n c], .slice A2 n2 c2, .pointer (some ⟨b2, 0, none⟩), undef, .bool false, .int .i64 (((k + 1) : Nat) : Int), .pointer (some ⟨b34, 0, none⟩), .int .i64 (findL ps x24.pipe), .int .i64 ((j : Nat) : Int), (U18 9), (U18 10), (U18 11), (U18 12), (U18 13), (U18 14), (U18 15), .bool false, (U22 17), (U22 18), (U22 19), .bool true, (U0 21), (U0 22), (U46 23), (U46 24), (U46 25), (U46 26), (U52 27), (U52 28), (U52 29), (U52 30), (U121 31), (U121 32), (U121 33), (U121 34), (U121 35), (U121 36), (U121 37), (U121 38), (U121 39), (U121 40), (U121 41), (U121 42), (U121 43), (U121 44), (U121 45), (U121 46), (U121 47), (U121 48), (U121 49), (U121 50), (U121 51), (U121 52), (U121 53), (U121 54), (U121 55), (U121 56), (U121 57), (U121 58), (U121 59), (U121 60), (U121 61), (U121 62), (U121 63), (U121 64), undef, undef, undef, undef, undef, undef, undef, undef, undef, (U121 74), .bool false, (U125 76), (U125 77), .bool true, (U1 79), (U1 80), (U141 81), (U141 82), (U141 83), (U141 84), (U141 85), (U141 86), (U141 87), (U141 88), (U141 89), (U141 90), (U141 91), (U141 92), (U141 93), (U141 94), (U141 95), (U141 96), (U141 97), .bool true]) (by kernel_rfl) ?_
                        refine h31 _ _ ?_
                        refine wp_ret ?_
                        try simp only [Exit.then, Exit.inBlock]
                        refine ret1 (v := .bool false) rfl (by kernel_rfl) ?_
                        have e8 : okV ps vs (k + 1) = false := Bool.eq_false_iff.2 (fun h9 => by
                          have h8 := (okV_iff hx25).1 h9
                          obtain ⟨⟨hA, hB⟩, hC, hD⟩ := h8
                          obtain ⟨hC0, p9, hp9, hC1⟩ := endAt_pos hC
                          have hB' := of_decide_eq_true ((above_next hx62).symm.trans hB)
                          obtain rfl := Option.some.inj (hp9.symm.trans hx78)
                          exact absurd (placed_yes (k := k + 1) (a := x24.pipe) (b := x24.node) hx130 (by omega) q139 q140) (by rw [hD]; simp))
                        exact ⟨ret_bool (goodV_bad (k := k + 1) (by omega) e8).symm, c142⟩
                      · refine W.sq (v := .bool false) rfl (r_eql (m := x129.node) (n := x24.node) rfl (by kernel_rfl) (by kernel_rfl) (decide_eq_false q140)) (by kernel_rfl) rfl rfl ?_
                        refine W.sq (v := .bool false) rfl (r_pick (b := true) rfl (by kernel_rfl) (by kernel_rfl)) (by kernel_rfl) rfl rfl ?_
                        refine W.sch_endU (fun U143 => [.agg #[.int .i64 m, .slice A n c], .slice A2 n2 c2, .pointer (some ⟨b2, 0, none⟩), undef, .bool false, .int .i64 (((k + 1) : Nat) : Int), .pointer (some ⟨b34, 0, none⟩), .int .i64 (findL ps x24.pipe), .int .i64 ((j : Nat) : Int), (U18 9), (U18 10), (U18 11), (U18 12), (U18 13), (U18 14), (U18 15), .bool false, (U22 17), (U22 18), (U22 19), .bool true, (U0 21), (U0 22), (U46 23), (U46 24), (U46 25), (U46 26), (U52 27), (U52 28), (U52 29), (U52 30), (U121 31), (U121 32), (U121 33), (U121 34), (U121 35), (U121 36), (U121 37), (U121 38), (U121 39), (U121 40), (U121 41), (U121 42), (U121 43), (U121 44), (U121 45), (U121 46), (U121 47), (U121 48), (U121 49), (U121 50), (U121 51), (U121 52), (U121 53), (U121 54), (U121 55), (U121 56), (U121 57), (U121 58), (U121 59), (U121 60), (U121 61), (U121 62), (U121 63), (U121 64), undef, undef, undef, undef, undef, undef, undef, undef, undef, (U121 74), .bool false, (U125 76), (U125 77), .bool true, (U1 79), (U1 80), U143 81, U143 82, U143 83, U143 84, U143 85, U143 86, U143 87, U143 88, U143 89, U143 90, U143 91, U143 92, U143 93, U143 94, U143 95, U143 96, U143 97, .bool false]) (by kernel_rfl) (fun U143 => ?_)
                        have x6 := SG.blk s128 x6 (by simp)
                        have x44 := SG.blk s128 x44 (by simp)
                        have c144 := (SG.belowR c123 s128 (fun kq e => by cases e))
                        refine h30 _ _ ?_
                        refine wp_cond_false (by kernel_rfl) ?_
                        refine wp_skip ?_
                        refine h29 _ _ ?_
                        refine W.region_quiet [(0, false), (1, false), (2, false)] (by kernel_rfl) ?_
                        refine W.sq (v := .int .i64 ((j : Nat) : Int)) rfl (r_move rfl (by kernel_rfl)) (by kernel_rfl) rfl rfl ?_
                        refine W.sq (v := .int .i64 ((j + 1 : Nat) : Int)) rfl (r_add (m := ((j : Nat) : Int)) (n := 1) (z := ((j + 1 : Nat) : Int)) rfl (by kernel_rfl) (by kernel_rfl) (by omega) (by omega)) (by kernel_rfl) rfl rfl ?_
                        refine W.sq (v := .int .i64 ((j + 1 : Nat) : Int)) rfl (r_assign rfl (by kernel_rfl)) (by kernel_rfl) rfl rfl ?_
                        refine W.sch_endU (fun U145 => [.agg #[.int .i64 m, .slice A n c], .slice A2 n2 c2, .pointer (some ⟨b2, 0, none⟩), undef, .bool false, .int .i64 (((k + 1) : Nat) : Int), .pointer (some ⟨b34, 0, none⟩), .int .i64 (findL ps x24.pipe), .int .i64 ((j + 1 : Nat) : Int), (U18 9), (U18 10), (U18 11), (U18 12), (U18 13), (U18 14), (U18 15), .bool false, (U22 17), (U22 18), (U22 19), .bool true, (U0 21), (U0 22), (U46 23), (U46 24), (U46 25), (U46 26), (U52 27), (U52 28), (U52 29), (U52 30), (U121 31), (U121 32), (U121 33), (U121 34), (U121 35), (U121 36), (U121 37), (U121 38), (U121 39), (U121 40), (U121 41), (U121 42), (U121 43), (U121 44), (U121 45), (U121 46), (U121 47), (U121 48), (U121 49), (U121 50), (U121 51), (U121 52), (U121 53), (U121 54), (U121 55), (U121 56), (U121 57), (U121 58), (U121 59), (U121 60), (U121 61), (U121 62), (U121 63), (U121 64), undef, undef, undef, undef, undef, undef, undef, undef, undef, (U121 74), .bool false, (U125 76), (U125 77), .bool true, U145 79, U145 80, (U143 81), (U143 82), (U143 83), (U143 84), (U143 85), (U143 86), (U143 87), (U143 88), (U143 89), (U143 90), (U143 91), (U143 92), (U143 93), (U143 94), (U143 95), (U143 96), (U143 97), .bool false]) (by kernel_rfl) (fun U145 => ?_)
                        exact h26 _ _ _ (by omega : ((k + 1) - (j + 1)) < _) ⟨j + 1, (fun iU9 => [.agg #[.int .i64 m, .slice A n c], .slice A2 n2 c2, .pointer (some ⟨b2, 0, none⟩), undef, .bool false, .int .i64 (((k + 1) : Nat) : Int), .pointer (some ⟨b34, 0, none⟩), .int .i64 (findL ps x24.pipe), .int .i64 ((j + 1 : Nat) : Int), (U18 9), (U18 10), (U18 11), (U18 12), (U18 13), (U18 14), (U18 15), .bool false, (U22 17), (U22 18), (U22 19), .bool true, (U0 21), (U0 22), (U46 23), (U46 24), (U46 25), (U46 26), (U52 27), (U52 28), (U52 29), (U52 30), (U121 31), (U121 32), (U121 33), (U121 34), (U121 35), (U121 36), (U121 37), (U121 38), (U121 39), (U121 40), (U121 41), (U121 42), (U121 43), (U121 44), (U121 45), (U121 46), (U121 47), (U121 48), (U121 49), (U121 50), (U121 51), (U121 52), (U121 53), (U121 54), (U121 55), (U121 56), (U121 57), (U121 58), (U121 59), (U121 60), (U121 61), (U121 62), (U121 63), (U121 64), undef, undef, undef, undef, undef, undef, undef, undef, undef, (U121 74), .bool false, (U125 76), (U125 77), .bool true, (U145 79), (U145 80), (U143 81), (U143 82), (U143 83), (U143 84), (U143 85), (U143 86), (U143 87), (U143 88), (U143 89), (U143 90), (U143 91), (U143 92), (U143 93), (U143 94), (U143 95), (U143 96), (U143 97), .bool false].getD iU9 undef), (by kernel_rfl), rfl, (by omega), (upto_succ (Q := fun z => ¬ (z.pipe = x24.pipe ∧ z.node = x24.node)) hno hx130 (by omega)), x6, x44, c144⟩
                    · refine W.sq (v := .bool false) rfl (r_eql (m := x129.pipe) (n := x24.pipe) rfl (by kernel_rfl) (by kernel_rfl) (decide_eq_false q139)) (by kernel_rfl) rfl rfl ?_
                      refine W.sq (v := .bool false) rfl (r_move rfl (by kernel_rfl)) (by kernel_rfl) rfl rfl ?_
                      refine W.sk s128 rfl (by kernel_rfl) rfl rfl ?_
                      refine W.sk s128 rfl (by kernel_rfl) rfl rfl ?_
                      refine W.sk s128 rfl (by kernel_rfl) rfl rfl ?_
                      refine W.sk s128 rfl (by kernel_rfl) rfl rfl ?_
                      refine W.sk s128 rfl (by kernel_rfl) rfl rfl ?_
                      refine W.sk s128 rfl (by kernel_rfl) rfl rfl ?_
                      refine W.sk s128 rfl (by kernel_rfl) rfl rfl ?_
                      refine W.sk s128 rfl (by kernel_rfl) rfl rfl ?_
                      refine W.sq (v := .bool false) rfl (r_pick (b := false) rfl (by kernel_rfl) (by kernel_rfl)) (by kernel_rfl) rfl rfl ?_
                      refine W.sch_endU (fun U146 => [.agg #[.int .i64 m, .slice A n c], .slice A2 n2 c2, .pointer (some ⟨b2, 0, none⟩), undef, .bool false, .int .i64 (((k + 1) : Nat) : Int), .pointer (some ⟨b34, 0, none⟩), .int .i64 (findL ps x24.pipe), .int .i64 ((j : Nat) : Int), (U18 9), (U18 10), (U18 11), (U18 12), (U18 13), (U18 14), (U18 15), .bool false, (U22 17), (U22 18), (U22 19), .bool true, (U0 21), (U0 22), (U46 23), (U46 24), (U46 25), (U46 26), (U52 27), (U52 28), (U52 29), (U52 30), (U121 31), (U121 32), (U121 33), (U121 34), (U121 35), (U121 36), (U121 37), (U121 38), (U121 39), (U121 40), (U121 41), (U121 42), (U121 43), (U121 44), (U121 45), (U121 46), (U121 47), (U121 48), (U121 49), (U121 50), (U121 51), (U121 52), (U121 53), (U121 54), (U121 55), (U121 56), (U121 57), (U121 58), (U121 59), (U121 60), (U121 61), (U121 62), (U121 63), (U121 64), undef, undef, undef, undef, undef, undef, undef, undef, undef, (U121 74), .bool false, (U125 76), (U125 77), .bool true, (U1 79), (U1 80), U146 81, U146 82, U146 83, U146 84, U146 85, U146 86, U146 87, U146 88, U146 89, undef, undef, undef, undef, undef, undef, undef, undef, .bool false]) (by kernel_rfl) (fun U146 => ?_)
                      have x6 := SG.blk s128 x6 (by simp)
                      have x44 := SG.blk s128 x44 (by simp)
                      have c147 := (SG.belowR c123 s128 (fun kq e => by cases e))
                      refine h30 _ _ ?_
                      refine wp_cond_false (by kernel_rfl) ?_
                      refine wp_skip ?_
                      refine h29 _ _ ?_
                      refine W.region_quiet [(0, false), (1, false), (2, false)] (by kernel_rfl) ?_
                      refine W.sq (v := .int .i64 ((j : Nat) : Int)) rfl (r_move rfl (by kernel_rfl)) (by kernel_rfl) rfl rfl ?_
                      refine W.sq (v := .int .i64 ((j + 1 : Nat) : Int)) rfl (r_add (m := ((j : Nat) : Int)) (n := 1) (z := ((j + 1 : Nat) : Int)) rfl (by kernel_rfl) (by kernel_rfl) (by omega) (by omega)) (by kernel_rfl) rfl rfl ?_
                      refine W.sq (v := .int .i64 ((j + 1 : Nat) : Int)) rfl (r_assign rfl (by kernel_rfl)) (by kernel_rfl) rfl rfl ?_
                      refine W.sch_endU (fun U148 => [.agg #[.int .i64 m, .slice A n c], .slice A2 n2 c2, .pointer (some ⟨b2, 0, none⟩), undef, .bool false, .int .i64 (((k + 1) : Nat) : Int), .pointer (some ⟨b34, 0, none⟩), .int .i64 (findL ps x24.pipe), .int .i64 ((j + 1 : Nat) : Int), (U18 9), (U18 10), (U18 11), (U18 12), (U18 13), (U18 14), (U18 15), .bool false, (U22 17), (U22 18), (U22 19), .bool true, (U0 21), (U0 22), (U46 23), (U46 24), (U46 25), (U46 26), (U52 27), (U52 28), (U52 29), (U52 30), (U121 31), (U121 32), (U121 33), (U121 34), (U121 35), (U121 36), (U121 37), (U121 38), (U121 39), (U121 40), (U121 41), (U121 42), (U121 43), (U121 44), (U121 45), (U121 46), (U121 47), (U121 48), (U121 49), (U121 50), (U121 51), (U121 52), (U121 53), (U121 54), (U121 55), (U121 56), (U121 57), (U121 58), (U121 59), (U121 60), (U121 61), (U121 62), (U121 63), (U121 64), undef, undef, undef, undef, undef, undef, undef, undef, undef, (U121 74), .bool false, (U125 76), (U125 77), .bool true, U148 79, U148 80, (U146 81), (U146 82), (U146 83), (U146 84), (U146 85), (U146 86), (U146 87), (U146 88), (U146 89), undef, undef, undef, undef, undef, undef, undef, undef, .bool false]) (by kernel_rfl) (fun U148 => ?_)
                      exact h26 _ _ _ (by omega : ((k + 1) - (j + 1)) < _) ⟨j + 1, (fun iU9 => [.agg #[.int .i64 m, .slice A n c], .slice A2 n2 c2, .pointer (some ⟨b2, 0, none⟩), undef, .bool false, .int .i64 (((k + 1) : Nat) : Int), .pointer (some ⟨b34, 0, none⟩), .int .i64 (findL ps x24.pipe), .int .i64 ((j + 1 : Nat) : Int), (U18 9), (U18 10), (U18 11), (U18 12), (U18 13), (U18 14), (U18 15), .bool false, (U22 17), (U22 18), (U22 19), .bool true, (U0 21), (U0 22), (U46 23), (U46 24), (U46 25), (U46 26), (U52 27), (U52 28), (U52 29), (U52 30), (U121 31), (U121 32), (U121 33), (U121 34), (U121 35), (U121 36), (U121 37), (U121 38), (U121 39), (U121 40), (U121 41), (U121 42), (U121 43), (U121 44), (U121 45), (U121 46), (U121 47), (U121 48), (U121 49), (U121 50), (U121 51), (U121 52), (U121 53), (U121 54), (U121 55), (U121 56), (U121 57), (U121 58), (U121 59), (U121 60), (U121 61), (U121 62), (U121 63), (U121 64), undef, undef, undef, undef, undef, undef, undef, undef, undef, (U121 74), .bool false, (U125 76), (U125 77), .bool true, (U148 79), (U148 80), (U146 81), (U146 82), (U146 83), (U146 84), (U146 85), (U146 86), (U146 87), (U146 88), (U146 89), undef, undef, undef, undef, undef, undef, undef, undef, .bool false].getD iU9 undef), (by kernel_rfl), rfl, (by omega), (upto_succ (Q := fun z => ¬ (z.pipe = x24.pipe ∧ z.node = x24.node)) hno hx130 (by omega)), x6, x44, c147⟩
                  · refine W.sq (v := .bool false) rfl (r_lss (m := ((j : Nat) : Int)) (n := (((k + 1) : Nat) : Int)) rfl (by kernel_rfl) (by kernel_rfl) (decide_eq_false q124)) (by kernel_rfl) rfl rfl ?_
                    refine W.sch_endU (fun U149 => [.agg #[.int .i64 m, .slice A n c], .slice A2 n2 c2, .pointer (some ⟨b2, 0, none⟩), undef, .bool false, .int .i64 (((k + 1) : Nat) : Int), .pointer (some ⟨b34, 0, none⟩), .int .i64 (findL ps x24.pipe), .int .i64 ((j : Nat) : Int), (U18 9), (U18 10), (U18 11), (U18 12), (U18 13), (U18 14), (U18 15), .bool false, (U22 17), (U22 18), (U22 19), .bool true, (U0 21), (U0 22), (U46 23), (U46 24), (U46 25), (U46 26), (U52 27), (U52 28), (U52 29), (U52 30), (U121 31), (U121 32), (U121 33), (U121 34), (U121 35), (U121 36), (U121 37), (U121 38), (U121 39), (U121 40), (U121 41), (U121 42), (U121 43), (U121 44), (U121 45), (U121 46), (U121 47), (U121 48), (U121 49), (U121 50), (U121 51), (U121 52), (U121 53), (U121 54), (U121 55), (U121 56), (U121 57), (U121 58), (U121 59), (U121 60), (U121 61), (U121 62), (U121 63), (U121 64), undef, undef, undef, undef, undef, undef, undef, undef, undef, (U121 74), .bool false, U149 76, U149 77, .bool false, (U1 79), (U1 80), (U1 81), (U1 82), (U1 83), (U1 84), (U1 85), (U1 86), (U1 87), (U1 88), (U1 89), (U1 90), (U1 91), (U1 92), (U1 93), (U1 94), (U1 95), (U1 96), (U1 97), (U1 98)]) (by kernel_rfl) (fun U149 => ?_)
                    refine h28 _ _ ?_
                    refine wp_cond_false (by kernel_rfl) ?_
                    refine wp_exit ?_
                    refine h10 _ _ ?_
                    refine W.region_quiet [(0, false), (1, false), (2, false)] (by kernel_rfl) ?_
                    refine W.sq (v := .int .i64 (((k + 1) : Nat) : Int)) rfl (r_move rfl (by kernel_rfl)) (by kernel_rfl) rfl rfl ?_
                    refine W.sq (v := .int .i64 (((k + 1) + 1 : Nat) : Int)) rfl (r_add (m := (((k + 1) : Nat) : Int)) (n := 1) (z := (((k + 1) + 1 : Nat) : Int)) rfl (by kernel_rfl) (by kernel_rfl) (by omega) (by omega)) (by kernel_rfl) rfl rfl ?_
                    refine W.sq (v := .int .i64 (((k + 1) + 1 : Nat) : Int)) rfl (r_assign rfl (by kernel_rfl)) (by kernel_rfl) rfl rfl ?_
                    refine W.sch_endU (fun U150 => [.agg #[.int .i64 m, .slice A n c], .slice A2 n2 c2, .pointer (some ⟨b2, 0, none⟩), undef, .bool false, .int .i64 (((k + 1) + 1 : Nat) : Int), .pointer (some ⟨b34, 0, none⟩), .int .i64 (findL ps x24.pipe), .int .i64 ((j : Nat) : Int), (U18 9), (U18 10), (U18 11), (U18 12), (U18 13), (U18 14), (U18 15), .bool false, (U22 17), (U22 18), (U22 19), .bool true, U150 21, U150 22, (U46 23), (U46 24), (U46 25), (U46 26), (U52 27), (U52 28), (U52 29), (U52 30), (U121 31), (U121 32), (U121 33), (U121 34), (U121 35), (U121 36), (U121 37), (U121 38), (U121 39), (U121 40), (U121 41), (U121 42), (U121 43), (U121 44), (U121 45), (U121 46), (U121 47), (U121 48), (U121 49), (U121 50), (U121 51), (U121 52), (U121 53), (U121 54), (U121 55), (U121 56), (U121 57), (U121 58), (U121 59), (U121 60), (U121 61), (U121 62), (U121 63), (U121 64), undef, undef, undef, undef, undef, undef, undef, undef, undef, (U121 74), .bool false, (U149 76), (U149 77), .bool false, (U1 79), (U1 80), (U1 81), (U1 82), (U1 83), (U1 84), (U1 85), (U1 86), (U1 87), (U1 88), (U1 89), (U1 90), (U1 91), (U1 92), (U1 93), (U1 94), (U1 95), (U1 96), (U1 97), (U1 98)]) (by kernel_rfl) (fun U150 => ?_)
                    exact h7 _ _ _ (by omega : (n2 - (k + 1 + 1)) < _) ⟨k + 1 + 1, (fun iU9 => [.agg #[.int .i64 m, .slice A n c], .slice A2 n2 c2, .pointer (some ⟨b2, 0, none⟩), undef, .bool false, .int .i64 (((k + 1) + 1 : Nat) : Int), .pointer (some ⟨b34, 0, none⟩), .int .i64 (findL ps x24.pipe), .int .i64 ((j : Nat) : Int), (U18 9), (U18 10), (U18 11), (U18 12), (U18 13), (U18 14), (U18 15), .bool false, (U22 17), (U22 18), (U22 19), .bool true, (U150 21), (U150 22), (U46 23), (U46 24), (U46 25), (U46 26), (U52 27), (U52 28), (U52 29), (U52 30), (U121 31), (U121 32), (U121 33), (U121 34), (U121 35), (U121 36), (U121 37), (U121 38), (U121 39), (U121 40), (U121 41), (U121 42), (U121 43), (U121 44), (U121 45), (U121 46), (U121 47), (U121 48), (U121 49), (U121 50), (U121 51), (U121 52), (U121 53), (U121 54), (U121 55), (U121 56), (U121 57), (U121 58), (U121 59), (U121 60), (U121 61), (U121 62), (U121 63), (U121 64), undef, undef, undef, undef, undef, undef, undef, undef, undef, (U121 74), .bool false, (U149 76), (U149 77), .bool false, (U1 79), (U1 80), (U1 81), (U1 82), (U1 83), (U1 84), (U1 85), (U1 86), (U1 87), (U1 88), (U1 89), (U1 90), (U1 91), (U1 92), (U1 93), (U1 94), (U1 95), (U1 96), (U1 97), (U1 98)].getD iU9 undef), (by kernel_rfl), rfl, (by omega), (okVTo_next hok ((okV_iff hx25).2 ⟨⟨inB_iff.1 q59, (by rw [above_next hx62]; exact decide_eq_true (by omega))⟩, endAt_of (by omega) hx78 (by omega), placed_no hno (by omega)⟩)), x6, c123⟩
          · refine W.sq (v := .bool false) rfl (r_gtr (m := ((K : Nat) : Int)) (n := 0) rfl (by kernel_rfl) (by kernel_rfl) (decide_eq_false q60)) (by kernel_rfl) rfl rfl ?_
            refine W.sq (v := .bool false) rfl (r_move rfl (by kernel_rfl)) (by kernel_rfl) rfl rfl ?_
            refine W.sk s56 rfl (by kernel_rfl) rfl rfl ?_
            refine W.sk s56 rfl (by kernel_rfl) rfl rfl ?_
            refine W.sk s56 rfl (by kernel_rfl) rfl rfl ?_
            refine W.sk s56 rfl (by kernel_rfl) rfl rfl ?_
            refine W.sk s56 rfl (by kernel_rfl) rfl rfl ?_
            refine W.sk s56 rfl (by kernel_rfl) rfl rfl ?_
            refine W.sk s56 rfl (by kernel_rfl) rfl rfl ?_
            refine W.sk s56 rfl (by kernel_rfl) rfl rfl ?_
            refine W.sk s56 rfl (by kernel_rfl) rfl rfl ?_
            refine W.sq (v := .bool false) rfl (r_pick (b := false) rfl (by kernel_rfl) (by kernel_rfl)) (by kernel_rfl) rfl rfl ?_
            refine W.sq (v := .bool false) rfl (r_pick (b := false) rfl (by kernel_rfl) (by kernel_rfl)) (by kernel_rfl) rfl rfl ?_
            refine W.sq (v := .bool false) rfl (r_move rfl (by kernel_rfl)) (by kernel_rfl) rfl rfl ?_
            refine W.sq (v := .int .i64 (findL ps x24.pipe)) rfl (r_move rfl (by kernel_rfl)) (by kernel_rfl) rfl rfl ?_
            by_cases q151 : (findL ps x24.pipe : Int) < (0 : Int)
            · refine W.sq (v := .bool true) rfl (r_lss (m := findL ps x24.pipe) (n := 0) rfl (by kernel_rfl) (by kernel_rfl) (decide_eq_true q151)) (by kernel_rfl) rfl rfl ?_
              refine W.sq (v := .bool true) rfl (r_pick (b := false) rfl (by kernel_rfl) (by kernel_rfl)) (by kernel_rfl) rfl rfl ?_
              refine W.sq (v := .bool true) rfl (r_move rfl (by kernel_rfl)) (by kernel_rfl) rfl rfl ?_
              refine W.sk s56 rfl (by kernel_rfl) rfl rfl ?_
              refine W.sk s56 rfl (by kernel_rfl) rfl rfl ?_
              refine W.sk s56 rfl (by kernel_rfl) rfl rfl ?_
              refine W.sk s56 rfl (by kernel_rfl) rfl rfl ?_
              refine W.sk s56 rfl (by kernel_rfl) rfl rfl ?_
              refine W.sk s56 rfl (by kernel_rfl) rfl rfl ?_
              refine W.sk s56 rfl (by kernel_rfl) rfl rfl ?_
              refine W.sk s56 rfl (by kernel_rfl) rfl rfl ?_
              refine W.sk s56 rfl (by kernel_rfl) rfl rfl ?_
              refine W.sk s56 rfl (by kernel_rfl) rfl rfl ?_
              refine W.sk s56 rfl (by kernel_rfl) rfl rfl ?_
              refine W.sk s56 rfl (by kernel_rfl) rfl rfl ?_
              refine W.sk s56 rfl (by kernel_rfl) rfl rfl ?_
              refine W.sk s56 rfl (by kernel_rfl) rfl rfl ?_
              refine W.sk s56 rfl (by kernel_rfl) rfl rfl ?_
              refine W.sk s56 rfl (by kernel_rfl) rfl rfl ?_
              refine W.sk s56 rfl (by kernel_rfl) rfl rfl ?_
              refine W.sk s56 rfl (by kernel_rfl) rfl rfl ?_
              refine W.sk s56 rfl (by kernel_rfl) rfl rfl ?_
              refine W.sk s56 rfl (by kernel_rfl) rfl rfl ?_
              refine W.sq (v := .bool true) rfl (r_pick (b := true) rfl (by kernel_rfl) (by kernel_rfl)) (by kernel_rfl) rfl rfl ?_
              refine W.sch_endU (fun U152 => [.agg #[.int .i64 m, .slice A n c], .slice A2 n2 c2, .pointer (some ⟨b2, 0, none⟩), undef, .bool false, .int .i64 ((K : Nat) : Int), .pointer (some ⟨b34, 0, none⟩), .int .i64 (findL ps x24.pipe), (U0 8), (U18 9), (U18 10), (U18 11), (U18 12), (U18 13), (U18 14), (U18 15), .bool false, (U22 17), (U22 18), (U22 19), .bool true, (U0 21), (U0 22), (U46 23), (U46 24), (U46 25), (U46 26), (U52 27), (U52 28), (U52 29), (U52 30), U152 31, U152 32, U152 33, U152 34, U152 35, U152 36, U152 37, U152 38, undef, undef, undef, undef, undef, undef, undef, undef, undef, U152 48, U152 49, U152 50, U152 51, U152 52, U152 53, U152 54, undef, undef, undef, undef, undef, undef, undef, undef, undef, undef, undef, undef, undef, undef, undef, undef, undef, undef, undef, undef, .bool true, (U0 76), (U0 77), (U0 78), (U0 79), (U0 80), (U0 81), (U0 82), (U0 83), (U0 84), (U0 85), (U0 86), (U0 87), (U0 88), (U0 89), (U0 90), (U0 91), (U0 92), (U0 93), (U0 94), (U0 95), (U0 96), (U0 97), (U0 98)]) (by kernel_rfl) (fun U152 => ?_)
              have x6 := SG.blk s56 x6 (by simp)
              have x44 := SG.blk s56 x44 (by simp)
              have c153 := (SG.belowR c53 s56 (fun kq e => by cases e))
              refine h14 _ _ ?_
              refine wp_cond_true (by kernel_rfl) ?_
              refine wp_seq_k (fun K32 h32 => ?_)
              refine W.region_quiet [(0, false)] (by kernel_rfl) ?_
              refine W.sq (v := .bool false) rfl (r_assign rfl (by kernel_rfl)) (by kernel_rfl) rfl rfl ?_
              refine W.sch_end (l' := [.agg #[.int .i64 m, .slice A n c], .slice A2 n2 c2, .pointer (some ⟨b2, 0, none⟩), undef, .bool false, .int .i64 ((K : Nat) : Int), .pointer (some ⟨b34, 0, none⟩), .int .i64 (findL ps x24.pipe), (U0 8), (U18 9), (U18 10), (U18 11), (U18 12), (U18 13), (U18 14), (U18 15), .bool false, (U22 17), (U22 18), (U22 19), .bool true, (U0 21), (U0 22), (U46 23), (U46 24), (U46 25), (U46 26), (U52 27), (U52 28), (U52 29), (U52 30), (U152 31), (U152 32), (U152 33), (U152 34), (U152 35), (U152 36), (U152 37), (U152 38), undef, undef, undef, undef, undef, undef, undef, undef, undef, (U152 48), (U152 49), (U152 50), (U152 51), (U152 52), (U152 53), (U152 54), undef, undef, undef, undef, undef, undef, undef, undef, undef, undef, undef, undef, undef, undef, undef, undef, undef, undef, undef, undef, .bool true, (U0 76), (U0 77), (U0 78), (U0 79), (U0 80), (U0 81), (U0 82), (U0 83), (U0 84), (U0 85), (U0 86), (U0 87), (U0 88), (U0 89), (U0 90), (U0 91), (U0 92), (U0 93), (U0 94), (U0 95), (U0 96), (U0 97), (U0 98)]) (by kernel_rfl) ?_
              refine h32 _ _ ?_
              refine wp_ret ?_
              try simp only [Exit.then, Exit.inBlock]
              refine ret1 (v := .bool false) rfl (by kernel_rfl) ?_
              have e8 : okV ps vs (K) = false := Bool.eq_false_iff.2 (fun h9 => by
                have h8 := (okV_iff hx25).1 h9
                obtain ⟨⟨hA, hB⟩, hC, hD⟩ := h8
                obtain ⟨hC0, p9, hp9, hC1⟩ := endAt_pos hC
                first | omega | (rw [inB_iff.2 hA] at q59; cases q59))
              exact ⟨ret_bool (goodV_bad (k := K) (by omega) e8).symm, c153⟩
            · refine W.sq (v := .bool false) rfl (r_lss (m := findL ps x24.pipe) (n := 0) rfl (by kernel_rfl) (by kernel_rfl) (decide_eq_false q151)) (by kernel_rfl) rfl rfl ?_
              refine W.sq (v := .bool false) rfl (r_pick (b := false) rfl (by kernel_rfl) (by kernel_rfl)) (by kernel_rfl) rfl rfl ?_
              refine W.sq (v := .bool false) rfl (r_move rfl (by kernel_rfl)) (by kernel_rfl) rfl rfl ?_
              refine W.sq (v := .pointer (some ⟨b2, 1, none⟩)) rfl (r_field (k := 1) rfl (by kernel_rfl) (by kernel_rfl)) (by kernel_rfl) rfl rfl ?_
              refine W.sq (v := .slice A n c) rfl (r_load rfl (by kernel_rfl) (by kernel_rfl) (sgS (blk_cell (j := 1) x6 (by kernel_rfl)) (by simp))) (by kernel_rfl) rfl rfl ?_
              refine W.sq (v := .int .i64 (findL ps x24.pipe)) rfl (r_move rfl (by kernel_rfl)) (by kernel_rfl) rfl rfl ?_
              have hfl := findL_lt ps x24.pipe
              obtain ⟨x154, hx155⟩ := get_of (zs := ps) (k := (findL ps x24.pipe).toNat) (by have := hl; omega)
              obtain ⟨b156, o157, hA158, hb159, hc160, hc161, hc162, hc163⟩ := Rd.elPipe ha hx155
              refine W.sq (v := .pointer (some ⟨b156, o157 + ((findL ps x24.pipe).toNat) * 4, none⟩)) rfl (r_idx (n := n) (c := c) (k := (findL ps x24.pipe).toNat) rfl (by kernel_rfl) hA158 (evk (z := findL ps x24.pipe) (by kernel_rfl) (by omega)) (by kernel_rfl) (by have := hl; omega)) (by kernel_rfl) rfl rfl ?_
              refine W.sq (v := .pointer (some ⟨b156, o157 + ((findL ps x24.pipe).toNat) * 4 + 1, none⟩)) rfl (r_field (k := 1) rfl (by kernel_rfl) (by kernel_rfl)) (by kernel_rfl) rfl rfl ?_
              refine W.sq (v := .int .i64 x154.fr) rfl (r_load rfl (by kernel_rfl) (by kernel_rfl) (sgS (later c53 hc161) (by simp))) (by kernel_rfl) rfl rfl ?_
              refine W.sq (v := .pointer (some ⟨b34, 2, none⟩)) rfl (r_field (k := 2) rfl (by kernel_rfl) (by kernel_rfl)) (by kernel_rfl) rfl rfl ?_
              refine W.sq (v := .int .i64 x24.node) rfl (r_load rfl (by kernel_rfl) (by kernel_rfl) (sgS (blk_cell (j := 2) x44 (by kernel_rfl)) (by simp))) (by kernel_rfl) rfl rfl ?_
              by_cases q164 : (x154.fr : Int) ≠ (x24.node : Int)
              · refine W.sq (v := .bool true) rfl (r_neq (m := x154.fr) (n := x24.node) rfl (by kernel_rfl) (by kernel_rfl) (decide_eq_true q164)) (by kernel_rfl) rfl rfl ?_
                refine W.sq (v := .bool true) rfl (r_move rfl (by kernel_rfl)) (by kernel_rfl) rfl rfl ?_
                refine W.sq (v := .pointer (some ⟨b2, 1, none⟩)) rfl (r_field (k := 1) rfl (by kernel_rfl) (by kernel_rfl)) (by kernel_rfl) rfl rfl ?_
                refine W.sq (v := .slice A n c) rfl (r_load rfl (by kernel_rfl) (by kernel_rfl) (sgS (blk_cell (j := 1) x6 (by kernel_rfl)) (by simp))) (by kernel_rfl) rfl rfl ?_
                refine W.sq (v := .int .i64 (findL ps x24.pipe)) rfl (r_move rfl (by kernel_rfl)) (by kernel_rfl) rfl rfl ?_
                refine W.sq (v := .pointer (some ⟨b156, o157 + ((findL ps x24.pipe).toNat) * 4, none⟩)) rfl (r_idx (n := n) (c := c) (k := (findL ps x24.pipe).toNat) rfl (by kernel_rfl) hA158 (evk (z := findL ps x24.pipe) (by kernel_rfl) (by omega)) (by kernel_rfl) (by have := hl; omega)) (by kernel_rfl) rfl rfl ?_
                refine W.sq (v := .pointer (some ⟨b156, o157 + ((findL ps x24.pipe).toNat) * 4 + 2, none⟩)) rfl (r_field (k := 2) rfl (by kernel_rfl) (by kernel_rfl)) (by kernel_rfl) rfl rfl ?_
                refine W.sq (v := .int .i64 x154.to) rfl (r_load rfl (by kernel_rfl) (by kernel_rfl) (sgS (later c53 hc162) (by simp))) (by kernel_rfl) rfl rfl ?_
                refine W.sq (v := .pointer (some ⟨b34, 2, none⟩)) rfl (r_field (k := 2) rfl (by kernel_rfl) (by kernel_rfl)) (by kernel_rfl) rfl rfl ?_
                refine W.sq (v := .int .i64 x24.node) rfl (r_load rfl (by kernel_rfl) (by kernel_rfl) (sgS (blk_cell (j := 2) x44 (by kernel_rfl)) (by simp))) (by kernel_rfl) rfl rfl ?_
                by_cases q165 : (x154.to : Int) ≠ (x24.node : Int)
                · refine W.sq (v := .bool true) rfl (r_neq (m := x154.to) (n := x24.node) rfl (by kernel_rfl) (by kernel_rfl) (decide_eq_true q165)) (by kernel_rfl) rfl rfl ?_
                  refine W.sq (v := .bool true) rfl (r_pick (b := true) rfl (by kernel_rfl) (by kernel_rfl)) (by kernel_rfl) rfl rfl ?_
                  refine W.sq (v := .bool true) rfl (r_pick (b := false) rfl (by kernel_rfl) (by kernel_rfl)) (by kernel_rfl) rfl rfl ?_
                  refine W.sch_endU (fun U166 => [.agg #[.int .i64 m, .slice A n c], .slice A2 n2 c2, .pointer (some ⟨b2, 0, none⟩), undef, .bool false, .int .i64 ((K : Nat) : Int), .pointer (some ⟨b34, 0, none⟩), .int .i64 (findL ps x24.pipe), (U0 8), (U18 9), (U18 10), (U18 11), (U18 12), (U18 13), (U18 14), (U18 15), .bool false, (U22 17), (U22 18), (U22 19), .bool true, (U0 21), (U0 22), (U46 23), (U46 24), (U46 25), (U46 26), (U52 27), (U52 28), (U52 29), (U52 30), U166 31, U166 32, U166 33, U166 34, U166 35, U166 36, U166 37, U166 38, undef, undef, undef, undef, undef, undef, undef, undef, undef, U166 48, U166 49, U166 50, U166 51, U166 52, U166 53, U166 54, U166 55, U166 56, U166 57, U166 58, U166 59, U166 60, U166 61, U166 62, U166 63, U166 64, U166 65, U166 66, U166 67, U166 68, U166 69, U166 70, U166 71, U166 72, U166 73, U166 74, .bool true, (U0 76), (U0 77), (U0 78), (U0 79), (U0 80), (U0 81), (U0 82), (U0 83), (U0 84), (U0 85), (U0 86), (U0 87), (U0 88), (U0 89), (U0 90), (U0 91), (U0 92), (U0 93), (U0 94), (U0 95), (U0 96), (U0 97), (U0 98)]) (by kernel_rfl) (fun U166 => ?_)
                  have x6 := SG.blk s56 x6 (by simp)
                  have x44 := SG.blk s56 x44 (by simp)
                  have c167 := (SG.belowR c53 s56 (fun kq e => by cases e))
                  refine h14 _ _ ?_
                  refine wp_cond_true (by kernel_rfl) ?_
                  refine wp_seq_k (fun K33 h33 => ?_)
                  refine W.region_quiet [(0, false)] (by kernel_rfl) ?_
                  refine W.sq (v := .bool false) rfl (r_assign rfl (by kernel_rfl)) (by kernel_rfl) rfl rfl ?_
                  refine W.sch_end (l' := [.agg #[.int .i64 m, .slice A n c], .slice A2 n2 c2, .pointer (some ⟨b2, 0, none⟩), undef, .bool false, .int .i64 ((K : Nat) : Int), .pointer (some ⟨b34, 0, none⟩), .int .i64 (findL ps x24.pipe), (U0 8), (U18 9), (U18 10), (U18 11), (U18 12), (U18 13), (U18 14), (U18 15), .bool false, (U22 17), (U22 18), (U22 19), .bool true, (U0 21), (U0 22), (U46 23), (U46 24), (U46 25), (U46 26), (U52 27), (U52 28), (U52 29), (U52 30), (U166 31), (U166 32), (U166 33), (U166 34), (U166 35), (U166 36), (U166 37), (U166 38), undef, undef, undef, undef, undef, undef, undef, undef, undef, (U166 48), (U166 49), (U166 50), (U166 51), (U166 52), (U166 53), (U166 54), (U166 55), (U166 56), (U166 57), (U166 58), (U166 59), (U166 60), (U166 61), (U166 62), (U166 63), (U166 64), (U166 65), (U166 66), (U166 67), (U166 68), (U166 69), (U166 70), (U166 71), (U166 72), (U166 73), (U166 74), .bool true, (U0 76), (U0 77), (U0 78), (U0 79), (U0 80), (U0 81), (U0 82), (U0 83), (U0 84), (U0 85), (U0 86), (U0 87), (U0 88), (U0 89), (U0 90), (U0 91), (U0 92), (U0 93), (U0 94), (U0 95), (U0 96), (U0 97), (U0 98)]) (by kernel_rfl) ?_
                  refine h33 _ _ ?_
                  refine wp_ret ?_
                  try simp only [Exit.then, Exit.inBlock]
                  refine ret1 (v := .bool false) rfl (by kernel_rfl) ?_
                  have e8 : okV ps vs (K) = false := Bool.eq_false_iff.2 (fun h9 => by
                    have h8 := (okV_iff hx25).1 h9
                    obtain ⟨⟨hA, hB⟩, hC, hD⟩ := h8
                    obtain ⟨hC0, p9, hp9, hC1⟩ := endAt_pos hC
                    obtain rfl := Option.some.inj (hp9.symm.trans hx155)
                    first | omega | (rw [inB_iff.2 hA] at q59; cases q59))
                  exact ⟨ret_bool (goodV_bad (k := K) (by omega) e8).symm, c167⟩
                · refine W.sq (v := .bool false) rfl (r_neq (m := x154.to) (n := x24.node) rfl (by kernel_rfl) (by kernel_rfl) (decide_eq_false q165)) (by kernel_rfl) rfl rfl ?_
                  refine W.sq (v := .bool false) rfl (r_pick (b := true) rfl (by kernel_rfl) (by kernel_rfl)) (by kernel_rfl) rfl rfl ?_
                  refine W.sq (v := .bool false) rfl (r_pick (b := false) rfl (by kernel_rfl) (by kernel_rfl)) (by kernel_rfl) rfl rfl ?_
                  refine W.sch_endU (fun U168 => [.agg #[.int .i64 m, .slice A n c], .slice A2 n2 c2, .pointer (some ⟨b2, 0, none⟩), undef, .bool false, .int .i64 ((K : Nat) : Int), .pointer (some ⟨b34, 0, none⟩), .int .i64 (findL ps x24.pipe), (U0 8), (U18 9), (U18 10), (U18 11), (U18 12), (U18 13), (U18 14), (U18 15), .bool false, (U22 17), (U22 18), (U22 19), .bool true, (U0 21), (U0 22), (U46 23), (U46 24), (U46 25), (U46 26), (U52 27), (U52 28), (U52 29), (U52 30), U168 31, U168 32, U168 33, U168 34, U168 35, U168 36, U168 37, U168 38, undef, undef, undef, undef, undef, undef, undef, undef, undef, U168 48, U168 49, U168 50, U168 51, U168 52, U168 53, U168 54, U168 55, U168 56, U168 57, U168 58, U168 59, U168 60, U168 61, U168 62, U168 63, U168 64, U168 65, U168 66, U168 67, U168 68, U168 69, U168 70, U168 71, U168 72, U168 73, U168 74, .bool false, (U0 76), (U0 77), (U0 78), (U0 79), (U0 80), (U0 81), (U0 82), (U0 83), (U0 84), (U0 85), (U0 86), (U0 87), (U0 88), (U0 89), (U0 90), (U0 91), (U0 92), (U0 93), (U0 94), (U0 95), (U0 96), (U0 97), (U0 98)]) (by kernel_rfl) (fun U168 => ?_)
                  have x6 := SG.blk s56 x6 (by simp)
                  have x44 := SG.blk s56 x44 (by simp)
                  have c169 := (SG.belowR c53 s56 (fun kq e => by cases e))
                  refine h14 _ _ ?_
                  refine wp_cond_false (by kernel_rfl) ?_
                  refine wp_skip ?_
                  refine h13 _ _ ?_
                  refine wp_seq_k (fun K34 h34 => ?_)
                  refine W.region_quiet [(0, false)] (by kernel_rfl) ?_
                  refine W.sq (v := .int .i64 0) rfl (r_assign rfl (by kernel_rfl)) (by kernel_rfl) rfl rfl ?_
                  refine W.sch_end (l' := [.agg #[.int .i64 m, .slice A n c], .slice A2 n2 c2, .pointer (some ⟨b2, 0, none⟩), undef, .bool false, .int .i64 ((K : Nat) : Int), .pointer (some ⟨b34, 0, none⟩), .int .i64 (findL ps x24.pipe), .int .i64 0, (U18 9), (U18 10), (U18 11), (U18 12), (U18 13), (U18 14), (U18 15), .bool false, (U22 17), (U22 18), (U22 19), .bool true, (U0 21), (U0 22), (U46 23), (U46 24), (U46 25), (U46 26), (U52 27), (U52 28), (U52 29), (U52 30), (U168 31), (U168 32), (U168 33), (U168 34), (U168 35), (U168 36), (U168 37), (U168 38), undef, undef, undef, undef, undef, undef, undef, undef, undef, (U168 48), (U168 49), (U168 50), (U168 51), (U168 52), (U168 53), (U168 54), (U168 55), (U168 56), (U168 57), (U168 58), (U168 59), (U168 60), (U168 61), (U168 62), (U168 63), (U168 64), (U168 65), (U168 66), (U168 67), (U168 68), (U168 69), (U168 70), (U168 71), (U168 72), (U168 73), (U168 74), .bool false, (U0 76), (U0 77), (U0 78), (U0 79), (U0 80), (U0 81), (U0 82), (U0 83), (U0 84), (U0 85), (U0 86), (U0 87), (U0 88), (U0 89), (U0 90), (U0 91), (U0 92), (U0 93), (U0 94), (U0 95), (U0 96), (U0 97), (U0 98)]) (by kernel_rfl) ?_
                  refine h34 _ _ ?_
                  refine wp_block ?_
                  refine loopK (fun am1 aa1 wl1 => ∃ (j : Nat) (U1 : Nat → Value), aa1 = ⟨[.agg #[.int .i64 m, .slice A n c], .slice A2 n2 c2, .pointer (some ⟨b2, 0, none⟩), undef, .bool false, .int .i64 ((K : Nat) : Int), .pointer (some ⟨b34, 0, none⟩), .int .i64 (findL ps x24.pipe), .int .i64 ((j : Nat) : Int), (U18 9), (U18 10), (U18 11), (U18 12), (U18 13), (U18 14), (U18 15), .bool false, (U22 17), (U22 18), (U22 19), .bool true, (U0 21), (U0 22), (U46 23), (U46 24), (U46 25), (U46 26), (U52 27), (U52 28), (U52 29), (U52 30), (U168 31), (U168 32), (U168 33), (U168 34), (U168 35), (U168 36), (U168 37), (U168 38), undef, undef, undef, undef, undef, undef, undef, undef, undef, (U168 48), (U168 49), (U168 50), (U168 51), (U168 52), (U168 53), (U168 54), (U168 55), (U168 56), (U168 57), (U168 58), (U168 59), (U168 60), (U168 61), (U168 62), (U168 63), (U168 64), (U168 65), (U168 66), (U168 67), (U168 68), (U168 69), (U168 70), (U168 71), (U168 72), (U168 73), (U168 74), .bool false, U1 76, U1 77, U1 78, U1 79, U1 80, U1 81, U1 82, U1 83, U1 84, U1 85, U1 86, U1 87, U1 88, U1 89, U1 90, U1 91, U1 92, U1 93, U1 94, U1 95, U1 96, U1 97, U1 98].toArray, []⟩ ∧ (am1 = (K) - j) ∧ (j ≤ K) ∧ (∀ i z, i < j → vs[i]? = some z → ¬ (z.pipe = x24.pipe ∧ z.node = x24.node)) ∧ (wl1.heap[b2]? = some (.cells #[.int .i64 m, .slice A n c] 32 (0, 0))) ∧ (wl1.heap[b34]? = some (.cells #[.int .i64 x24.id, .int .i64 x24.pipe, .int .i64 x24.node, .bool x24.shut] 60 (0, 0))) ∧ (Below w.heap.size w wl1)) ((K) - 0) ?_ ?_
                  · exact ⟨0, (fun iU9 => [.agg #[.int .i64 m, .slice A n c], .slice A2 n2 c2, .pointer (some ⟨b2, 0, none⟩), undef, .bool false, .int .i64 ((K : Nat) : Int), .pointer (some ⟨b34, 0, none⟩), .int .i64 (findL ps x24.pipe), .int .i64 0, (U18 9), (U18 10), (U18 11), (U18 12), (U18 13), (U18 14), (U18 15), .bool false, (U22 17), (U22 18), (U22 19), .bool true, (U0 21), (U0 22), (U46 23), (U46 24), (U46 25), (U46 26), (U52 27), (U52 28), (U52 29), (U52 30), (U168 31), (U168 32), (U168 33), (U168 34), (U168 35), (U168 36), (U168 37), (U168 38), undef, undef, undef, undef, undef, undef, undef, undef, undef, (U168 48), (U168 49), (U168 50), (U168 51), (U168 52), (U168 53), (U168 54), (U168 55), (U168 56), (U168 57), (U168 58), (U168 59), (U168 60), (U168 61), (U168 62), (U168 63), (U168 64), (U168 65), (U168 66), (U168 67), (U168 68), (U168 69), (U168 70), (U168 71), (U168 72), (U168 73), (U168 74), .bool false, (U0 76), (U0 77), (U0 78), (U0 79), (U0 80), (U0 81), (U0 82), (U0 83), (U0 84), (U0 85), (U0 86), (U0 87), (U0 88), (U0 89), (U0 90), (U0 91), (U0 92), (U0 93), (U0 94), (U0 95), (U0 96), (U0 97), (U0 98)].getD iU9 undef), (by kernel_rfl), rfl, (Nat.zero_le _), (fun i z hi => absurd hi (by omega)), x6, x44, c169⟩
                  rintro am1 aa1 wl1 K35 h35 ⟨j, U1, rfl, rfl, hj, hno, x6, x44, c170⟩
                  refine wp_seq_k (fun K36 h36 => ?_)
                  refine wp_seq_k (fun K37 h37 => ?_)
                  refine W.region_quiet [(0, false), (1, false), (2, false)] (by kernel_rfl) ?_
                  refine W.sq (v := .int .i64 ((j : Nat) : Int)) rfl (r_move rfl (by kernel_rfl)) (by kernel_rfl) rfl rfl ?_
                  refine W.sq (v := .int .i64 ((K : Nat) : Int)) rfl (r_move rfl (by kernel_rfl)) (by kernel_rfl) rfl rfl ?_
                  by_cases q171 : (((j : Nat) : Int) : Int) < (((K : Nat) : Int) : Int)
                  · refine W.sq (v := .bool true) rfl (r_lss (m := ((j : Nat) : Int)) (n := ((K : Nat) : Int)) rfl (by kernel_rfl) (by kernel_rfl) (decide_eq_true q171)) (by kernel_rfl) rfl rfl ?_
                    refine W.sch_endU (fun U172 => [.agg #[.int .i64 m, .slice A n c], .slice A2 n2 c2, .pointer (some ⟨b2, 0, none⟩), undef, .bool false, .int .i64 ((K : Nat) : Int), .pointer (some ⟨b34, 0, none⟩), .int .i64 (findL ps x24.pipe), .int .i64 ((j : Nat) : Int), (U18 9), (U18 10), (U18 11), (U18 12), (U18 13), (U18 14), (U18 15), .bool false, (U22 17), (U22 18), (U22 19), .bool true, (U0 21), (U0 22), (U46 23), (U46 24), (U46 25), (U46 26), (U52 27), (U52 28), (U52 29), (U52 30), (U168 31), (U168 32), (U168 33), (U168 34), (U168 35), (U168 36), (U168 37), (U168 38), undef, undef, undef, undef, undef, undef, undef, undef, undef, (U168 48), (U168 49), (U168 50), (U168 51), (U168 52), (U168 53), (U168 54), (U168 55), (U168 56), (U168 57), (U168 58), (U168 59), (U168 60), (U168 61), (U168 62), (U168 63), (U168 64), (U168 65), (U168 66), (U168 67), (U168 68), (U168 69), (U168 70), (U168 71), (U168 72), (U168 73), (U168 74), .bool false, U172 76, U172 77, .bool true, (U1 79), (U1 80), (U1 81), (U1 82), (U1 83), (U1 84), (U1 85), (U1 86), (U1 87), (U1 88), (U1 89), (U1 90), (U1 91), (U1 92), (U1 93), (U1 94), (U1 95), (U1 96), (U1 97), (U1 98)]) (by kernel_rfl) (fun U172 => ?_)
                    refine h37 _ _ ?_
                    refine wp_cond_true (by kernel_rfl) ?_
                    refine wp_skip ?_
                    refine h36 _ _ ?_
                    refine wp_seq_k (fun K38 h38 => ?_)
                    refine wp_block ?_
                    refine wp_seq_k (fun K39 h39 => ?_)
                    refine W.region_sch (row := none) (Sch.of [(0, false), (1, false), (2, false), (3, false), (4, false), (5, false), (6, false), (7, false), (8, false), (9, false), (10, false), (11, false), (12, false), (13, false), (14, false), (15, false), (16, false), (17, false)]) (by kernel_rfl) (by kernel_rfl) (fun _ d _ _ _ h => by cases d <;> exact h) (by kernel_rfl) (fun w173 e174 s175 => ?_)
                    refine W.sq (v := .slice A2 n2 c2) rfl (r_move rfl (by kernel_rfl)) (by kernel_rfl) rfl rfl ?_
                    refine W.sq (v := .int .i64 ((j : Nat) : Int)) rfl (r_move rfl (by kernel_rfl)) (by kernel_rfl) rfl rfl ?_
                    obtain ⟨x176, hx177⟩ := get_of (zs := vs) (k := j) (by have := hl2; omega)
                    obtain ⟨b178, o179, hA180, hb181, hc182, hc183, hc184, hc185⟩ := Rd.elValve hb hx177
                    refine W.sq (v := .pointer (some ⟨b178, o179 + j * 4, none⟩)) rfl (r_idx (n := n2) (c := c2) (k := j) rfl (by kernel_rfl) hA180 (by kernel_rfl) (by kernel_rfl) (by have := hl2; omega)) (by kernel_rfl) rfl rfl ?_
                    refine W.sq (v := .pointer (some ⟨b178, o179 + j * 4 + 1, none⟩)) rfl (r_field (k := 1) rfl (by kernel_rfl) (by kernel_rfl)) (by kernel_rfl) rfl rfl ?_
                    refine W.sq (v := .int .i64 x176.pipe) rfl (r_load rfl (by kernel_rfl) (by kernel_rfl) (sgS (later c170 hc183) (by simp))) (by kernel_rfl) rfl rfl ?_
                    refine W.sq (v := .pointer (some ⟨b34, 1, none⟩)) rfl (r_field (k := 1) rfl (by kernel_rfl) (by kernel_rfl)) (by kernel_rfl) rfl rfl ?_
                    refine W.sq (v := .int .i64 x24.pipe) rfl (r_load rfl (by kernel_rfl) (by kernel_rfl) (sgS (blk_cell (j := 1) x44 (by kernel_rfl)) (by simp))) (by kernel_rfl) rfl rfl ?_
                    by_cases q186 : (x176.pipe : Int) = (x24.pipe : Int)
                    · refine W.sq (v := .bool true) rfl (r_eql (m := x176.pipe) (n := x24.pipe) rfl (by kernel_rfl) (by kernel_rfl) (decide_eq_true q186)) (by kernel_rfl) rfl rfl ?_
                      refine W.sq (v := .bool true) rfl (r_move rfl (by kernel_rfl)) (by kernel_rfl) rfl rfl ?_
                      refine W.sq (v := .slice A2 n2 c2) rfl (r_move rfl (by kernel_rfl)) (by kernel_rfl) rfl rfl ?_
                      refine W.sq (v := .int .i64 ((j : Nat) : Int)) rfl (r_move rfl (by kernel_rfl)) (by kernel_rfl) rfl rfl ?_
                      refine W.sq (v := .pointer (some ⟨b178, o179 + j * 4, none⟩)) rfl (r_idx (n := n2) (c := c2) (k := j) rfl (by kernel_rfl) hA180 (by kernel_rfl) (by kernel_rfl) (by have := hl2; omega)) (by kernel_rfl) rfl rfl ?_
                      refine W.sq (v := .pointer (some ⟨b178, o179 + j * 4 + 2, none⟩)) rfl (r_field (k := 2) rfl (by kernel_rfl) (by kernel_rfl)) (by kernel_rfl) rfl rfl ?_
                      refine W.sq (v := .int .i64 x176.node) rfl (r_load rfl (by kernel_rfl) (by kernel_rfl) (sgS (later c170 hc184) (by simp))) (by kernel_rfl) rfl rfl ?_
                      refine W.sq (v := .pointer (some ⟨b34, 2, none⟩)) rfl (r_field (k := 2) rfl (by kernel_rfl) (by kernel_rfl)) (by kernel_rfl) rfl rfl ?_
                      refine W.sq (v := .int .i64 x24.node) rfl (r_load rfl (by kernel_rfl) (by kernel_rfl) (sgS (blk_cell (j := 2) x44 (by kernel_rfl)) (by simp))) (by kernel_rfl) rfl rfl ?_
                      by_cases q187 : (x176.node : Int) = (x24.node : Int)
                      · refine W.sq (v := .bool true) rfl (r_eql (m := x176.node) (n := x24.node) rfl (by kernel_rfl) (by kernel_rfl) (decide_eq_true q187)) (by kernel_rfl) rfl rfl ?_
                        refine W.sq (v := .bool true) rfl (r_pick (b := true) rfl (by kernel_rfl) (by kernel_rfl)) (by kernel_rfl) rfl rfl ?_
                        refine W.sch_endU (fun U188 => [.agg #[.int .i64 m, .slice A n c], .slice A2 n2 c2, .pointer (some ⟨b2, 0, none⟩), undef, .bool false, .int .i64 ((K : Nat) : Int), .pointer (some ⟨b34, 0, none⟩), .int .i64 (findL ps x24.pipe), .int .i64 ((j : Nat) : Int), (U18 9), (U18 10), (U18 11), (U18 12), (U18 13), (U18 14), (U18 15), .bool false, (U22 17), (U22 18), (U22 19), .bool true, (U0 21), (U0 22), (U46 23), (U46 24), (U46 25), (U46 26), (U52 27), (U52 28), (U52 29), (U52 30), (U168 31), (U168 32), (U168 33), (U168 34), (U168 35), (U168 36), (U168 37), (U168 38), undef, undef, undef, undef, undef, undef, undef, undef, undef, (U168 48), (U168 49), (U168 50), (U168 51), (U168 52), (U168 53), (U168 54), (U168 55), (U168 56), (U168 57), (U168 58), (U168 59), (U168 60), (U168 61), (U168 62), (U168 63), (U168 64), (U168 65), (U168 66), (U168 67), (U168 68), (U168 69), (U168 70), (U168 71), (U168 72), (U168 73), (U168 74), .bool false, (U172 76), (U172 77), .bool true, (U1 79), (U1 80), U188 81, U188 82, U188 83, U188 84, U188 85, U188 86, U188 87, U188 88, U188 89, U188 90, U188 91, U188 92, U188 93, U188 94, U188 95, U188 96, U188 97, .bool true]) (by kernel_rfl) (fun U188 => ?_)
                        have x6 := SG.blk s175 x6 (by simp)
                        have x44 := SG.blk s175 x44 (by simp)
                        have c189 := (SG.belowR c170 s175 (fun kq e => by cases e))
                        refine h39 _ _ ?_
                        refine wp_cond_true (by kernel_rfl) ?_
                        refine wp_seq_k (fun K40 h40 => ?_)
                        refine W.region_quiet [(0, false)] (by kernel_rfl) ?_
                        refine W.sq (v := .bool false) rfl (r_assign rfl (by kernel_rfl)) (by kernel_rfl) rfl rfl ?_
                        refine W.sch_end (l' := [.agg #[.int .i64 m, .slice A n c], .slice A2 n2 c2, .pointer (some ⟨b2, 0, none⟩), undef, .bool false, .int .i64 ((K : Nat) : Int), .pointer (some ⟨b34, 0, none⟩), .int .i64 (findL ps x24.pipe), .int .i64 ((j : Nat) : Int), (U18 9), (U18 10), (U18 11), (U18 12), (U18 13), (U18 14), (U18 15), .bool false, (U22 17), (U22 18), (U22 19), .bool true, (U0 21), (U0 22), (U46 23), (U46 24), (U46 25), (U46 26), (U52 27), (U52 28), (U52 29), (U52 30), (U168 31), (U168 32), (U168 33), (U168 34), (U168 35), (U168 36), (U168 37), (U168 38), undef, undef, undef, undef, undef, undef, undef, undef, undef, (U168 48), (U168 49), (U168 50), (U168 51), (U168 52), (U168 53), (U168 54), (U168 55), (U168 56), (U168 57), (U168 58), (U168 59), (U168 60), (U168 61), (U168 62), (U168 63), (U168 64), (U168 65), (U168 66), (U168 67), (U168 68), (U168 69), (U168 70), (U168 71), (U168 72), (U168 73), (U168 74), .bool false, (U172 76), (U172 77), .bool true, (U1 79), (U1 80), (U188 81), (U188 82), (U188 83), (U188 84), (U188 85), (U188 86), (U188 87), (U188 88), (U188 89), (U188 90), (U188 91), (U188 92), (U188 93), (U188 94), (U188 95), (U188 96), (U188 97), .bool true]) (by kernel_rfl) ?_
                        refine h40 _ _ ?_
                        refine wp_ret ?_
                        try simp only [Exit.then, Exit.inBlock]
                        refine ret1 (v := .bool false) rfl (by kernel_rfl) ?_
                        have e8 : okV ps vs (K) = false := Bool.eq_false_iff.2 (fun h9 => by
                          have h8 := (okV_iff hx25).1 h9
                          obtain ⟨⟨hA, hB⟩, hC, hD⟩ := h8
                          obtain ⟨hC0, p9, hp9, hC1⟩ := endAt_pos hC
                          obtain rfl := Option.some.inj (hp9.symm.trans hx155)
                          exact absurd (placed_yes (k := K) (a := x24.pipe) (b := x24.node) hx177 (by omega) q186 q187) (by rw [hD]; simp))
                        exact ⟨ret_bool (goodV_bad (k := K) (by omega) e8).symm, c189⟩
                      · refine W.sq (v := .bool false) rfl (r_eql (m := x176.node) (n := x24.node) rfl (by kernel_rfl) (by kernel_rfl) (decide_eq_false q187)) (by kernel_rfl) rfl rfl ?_
                        refine W.sq (v := .bool false) rfl (r_pick (b := true) rfl (by kernel_rfl) (by kernel_rfl)) (by kernel_rfl) rfl rfl ?_
                        refine W.sch_endU (fun U190 => [.agg #[.int .i64 m, .slice A n c], .slice A2 n2 c2, .pointer (some ⟨b2, 0, none⟩), undef, .bool false, .int .i64 ((K : Nat) : Int), .pointer (some ⟨b34, 0, none⟩), .int .i64 (findL ps x24.pipe), .int .i64 ((j : Nat) : Int), (U18 9), (U18 10), (U18 11), (U18 12), (U18 13), (U18 14), (U18 15), .bool false, (U22 17), (U22 18), (U22 19), .bool true, (U0 21), (U0 22), (U46 23), (U46 24), (U46 25), (U46 26), (U52 27), (U52 28), (U52 29), (U52 30), (U168 31), (U168 32), (U168 33), (U168 34), (U168 35), (U168 36), (U168 37), (U168 38), undef, undef, undef, undef, undef, undef, undef, undef, undef, (U168 48), (U168 49), (U168 50), (U168 51), (U168 52), (U168 53), (U168 54), (U168 55), (U168 56), (U168 57), (U168 58), (U168 59), (U168 60), (U168 61), (U168 62), (U168 63), (U168 64), (U168 65), (U168 66), (U168 67), (U168 68), (U168 69), (U168 70), (U168 71), (U168 72), (U168 73), (U168 74), .bool false, (U172 76), (U172 77), .bool true, (U1 79), (U1 80), U190 81, U190 82, U190 83, U190 84, U190 85, U190 86, U190 87, U190 88, U190 89, U190 90, U190 91, U190 92, U190 93, U190 94, U190 95, U190 96, U190 97, .bool false]) (by kernel_rfl) (fun U190 => ?_)
                        have x6 := SG.blk s175 x6 (by simp)
                        have x44 := SG.blk s175 x44 (by simp)
                        have c191 := (SG.belowR c170 s175 (fun kq e => by cases e))
                        refine h39 _ _ ?_
                        refine wp_cond_false (by kernel_rfl) ?_
                        refine wp_skip ?_
                        refine h38 _ _ ?_
                        refine W.region_quiet [(0, false), (1, false), (2, false)] (by kernel_rfl) ?_
                        refine W.sq (v := .int .i64 ((j : Nat) : Int)) rfl (r_move rfl (by kernel_rfl)) (by kernel_rfl) rfl rfl ?_
                        refine W.sq (v := .int .i64 ((j + 1 : Nat) : Int)) rfl (r_add (m := ((j : Nat) : Int)) (n := 1) (z := ((j + 1 : Nat) : Int)) rfl (by kernel_rfl) (by kernel_rfl) (by omega) (by omega)) (by kernel_rfl) rfl rfl ?_
                        refine W.sq (v := .int .i64 ((j + 1 : Nat) : Int)) rfl (r_assign rfl (by kernel_rfl)) (by kernel_rfl) rfl rfl ?_
                        refine W.sch_endU (fun U192 => [.agg #[.int .i64 m, .slice A n c], .slice A2 n2 c2, .pointer (some ⟨b2, 0, none⟩), undef, .bool false, .int .i64 ((K : Nat) : Int), .pointer (some ⟨b34, 0, none⟩), .int .i64 (findL ps x24.pipe), .int .i64 ((j + 1 : Nat) : Int), (U18 9), (U18 10), (U18 11), (U18 12), (U18 13), (U18 14), (U18 15), .bool false, (U22 17), (U22 18), (U22 19), .bool true, (U0 21), (U0 22), (U46 23), (U46 24), (U46 25), (U46 26), (U52 27), (U52 28), (U52 29), (U52 30), (U168 31), (U168 32), (U168 33), (U168 34), (U168 35), (U168 36), (U168 37), (U168 38), undef, undef, undef, undef, undef, undef, undef, undef, undef, (U168 48), (U168 49), (U168 50), (U168 51), (U168 52), (U168 53), (U168 54), (U168 55), (U168 56), (U168 57), (U168 58), (U168 59), (U168 60), (U168 61), (U168 62), (U168 63), (U168 64), (U168 65), (U168 66), (U168 67), (U168 68), (U168 69), (U168 70), (U168 71), (U168 72), (U168 73), (U168 74), .bool false, (U172 76), (U172 77), .bool true, U192 79, U192 80, (U190 81), (U190 82), (U190 83), (U190 84), (U190 85), (U190 86), (U190 87), (U190 88), (U190 89), (U190 90), (U190 91), (U190 92), (U190 93), (U190 94), (U190 95), (U190 96), (U190 97), .bool false]) (by kernel_rfl) (fun U192 => ?_)
                        exact h35 _ _ _ (by omega : ((K) - (j + 1)) < _) ⟨j + 1, (fun iU9 => [.agg #[.int .i64 m, .slice A n c], .slice A2 n2 c2, .pointer (some ⟨b2, 0, none⟩), undef, .bool false, .int .i64 ((K : Nat) : Int), .pointer (some ⟨b34, 0, none⟩), .int .i64 (findL ps x24.pipe), .int .i64 ((j + 1 : Nat) : Int), (U18 9), (U18 10), (U18 11), (U18 12), (U18 13), (U18 14), (U18 15), .bool false, (U22 17), (U22 18), (U22 19), .bool true, (U0 21), (U0 22), (U46 23), (U46 24), (U46 25), (U46 26), (U52 27), (U52 28), (U52 29), (U52 30), (U168 31), (U168 32), (U168 33), (U168 34), (U168 35), (U168 36), (U168 37), (U168 38), undef, undef, undef, undef, undef, undef, undef, undef, undef, (U168 48), (U168 49), (U168 50), (U168 51), (U168 52), (U168 53), (U168 54), (U168 55), (U168 56), (U168 57), (U168 58), (U168 59), (U168 60), (U168 61), (U168 62), (U168 63), (U168 64), (U168 65), (U168 66), (U168 67), (U168 68), (U168 69), (U168 70), (U168 71), (U168 72), (U168 73), (U168 74), .bool false, (U172 76), (U172 77), .bool true, (U192 79), (U192 80), (U190 81), (U190 82), (U190 83), (U190 84), (U190 85), (U190 86), (U190 87), (U190 88), (U190 89), (U190 90), (U190 91), (U190 92), (U190 93), (U190 94), (U190 95), (U190 96), (U190 97), .bool false].getD iU9 undef), (by kernel_rfl), rfl, (by omega), (upto_succ (Q := fun z => ¬ (z.pipe = x24.pipe ∧ z.node = x24.node)) hno hx177 (by omega)), x6, x44, c191⟩
                    · refine W.sq (v := .bool false) rfl (r_eql (m := x176.pipe) (n := x24.pipe) rfl (by kernel_rfl) (by kernel_rfl) (decide_eq_false q186)) (by kernel_rfl) rfl rfl ?_
                      refine W.sq (v := .bool false) rfl (r_move rfl (by kernel_rfl)) (by kernel_rfl) rfl rfl ?_
                      refine W.sk s175 rfl (by kernel_rfl) rfl rfl ?_
                      refine W.sk s175 rfl (by kernel_rfl) rfl rfl ?_
                      refine W.sk s175 rfl (by kernel_rfl) rfl rfl ?_
                      refine W.sk s175 rfl (by kernel_rfl) rfl rfl ?_
                      refine W.sk s175 rfl (by kernel_rfl) rfl rfl ?_
                      refine W.sk s175 rfl (by kernel_rfl) rfl rfl ?_
                      refine W.sk s175 rfl (by kernel_rfl) rfl rfl ?_
                      refine W.sk s175 rfl (by kernel_rfl) rfl rfl ?_
                      refine W.sq (v := .bool false) rfl (r_pick (b := false) rfl (by kernel_rfl) (by kernel_rfl)) (by kernel_rfl) rfl rfl ?_
                      refine W.sch_endU (fun U193 => [.agg #[.int .i64 m, .slice A n c], .slice A2 n2 c2, .pointer (some ⟨b2, 0, none⟩), undef, .bool false, .int .i64 ((K : Nat) : Int), .pointer (some ⟨b34, 0, none⟩), .int .i64 (findL ps x24.pipe), .int .i64 ((j : Nat) : Int), (U18 9), (U18 10), (U18 11), (U18 12), (U18 13), (U18 14), (U18 15), .bool false, (U22 17), (U22 18), (U22 19), .bool true, (U0 21), (U0 22), (U46 23), (U46 24), (U46 25), (U46 26), (U52 27), (U52 28), (U52 29), (U52 30), (U168 31), (U168 32), (U168 33), (U168 34), (U168 35), (U168 36), (U168 37), (U168 38), undef, undef, undef, undef, undef, undef, undef, undef, undef, (U168 48), (U168 49), (U168 50), (U168 51), (U168 52), (U168 53), (U168 54), (U168 55), (U168 56), (U168 57), (U168 58), (U168 59), (U168 60), (U168 61), (U168 62), (U168 63), (U168 64), (U168 65), (U168 66), (U168 67), (U168 68), (U168 69), (U168 70), (U168 71), (U168 72), (U168 73), (U168 74), .bool false, (U172 76), (U172 77), .bool true, (U1 79), (U1 80), U193 81, U193 82, U193 83, U193 84, U193 85, U193 86, U193 87, U193 88, U193 89, undef, undef, undef, undef, undef, undef, undef, undef, .bool false]) (by kernel_rfl) (fun U193 => ?_)
                      have x6 := SG.blk s175 x6 (by simp)
                      have x44 := SG.blk s175 x44 (by simp)
                      have c194 := (SG.belowR c170 s175 (fun kq e => by cases e))
                      refine h39 _ _ ?_
                      refine wp_cond_false (by kernel_rfl) ?_
                      refine wp_skip ?_
                      refine h38 _ _ ?_
                      refine W.region_quiet [(0, false), (1, false), (2, false)] (by kernel_rfl) ?_
                      refine W.sq (v := .int .i64 ((j : Nat) : Int)) rfl (r_move rfl (by kernel_rfl)) (by kernel_rfl) rfl rfl ?_
                      refine W.sq (v := .int .i64 ((j + 1 : Nat) : Int)) rfl (r_add (m := ((j : Nat) : Int)) (n := 1) (z := ((j + 1 : Nat) : Int)) rfl (by kernel_rfl) (by kernel_rfl) (by omega) (by omega)) (by kernel_rfl) rfl rfl ?_
                      refine W.sq (v := .int .i64 ((j + 1 : Nat) : Int)) rfl (r_assign rfl (by kernel_rfl)) (by kernel_rfl) rfl rfl ?_
                      refine W.sch_endU (fun U195 => [.agg #[.int .i64 m, .slice A n c], .slice A2 n2 c2, .pointer (some ⟨b2, 0, none⟩), undef, .bool false, .int .i64 ((K : Nat) : Int), .pointer (some ⟨b34, 0, none⟩), .int .i64 (findL ps x24.pipe), .int .i64 ((j + 1 : Nat) : Int), (U18 9), (U18 10), (U18 11), (U18 12), (U18 13), (U18 14), (U18 15), .bool false, (U22 17), (U22 18), (U22 19), .bool true, (U0 21), (U0 22), (U46 23), (U46 24), (U46 25), (U46 26), (U52 27), (U52 28), (U52 29), (U52 30), (U168 31), (U168 32), (U168 33), (U168 34), (U168 35), (U168 36), (U168 37), (U168 38), undef, undef, undef, undef, undef, undef, undef, undef, undef, (U168 48), (U168 49), (U168 50), (U168 51), (U168 52), (U168 53), (U168 54), (U168 55), (U168 56), (U168 57), (U168 58), (U168 59), (U168 60), (U168 61), (U168 62), (U168 63), (U168 64), (U168 65), (U168 66), (U168 67), (U168 68), (U168 69), (U168 70), (U168 71), (U168 72), (U168 73), (U168 74), .bool false, (U172 76), (U172 77), .bool true, U195 79, U195 80, (U193 81), (U193 82), (U193 83), (U193 84), (U193 85), (U193 86), (U193 87), (U193 88), (U193 89), undef, undef, undef, undef, undef, undef, undef, undef, .bool false]) (by kernel_rfl) (fun U195 => ?_)
                      exact h35 _ _ _ (by omega : ((K) - (j + 1)) < _) ⟨j + 1, (fun iU9 => [.agg #[.int .i64 m, .slice A n c], .slice A2 n2 c2, .pointer (some ⟨b2, 0, none⟩), undef, .bool false, .int .i64 ((K : Nat) : Int), .pointer (some ⟨b34, 0, none⟩), .int .i64 (findL ps x24.pipe), .int .i64 ((j + 1 : Nat) : Int), (U18 9), (U18 10), (U18 11), (U18 12), (U18 13), (U18 14), (U18 15), .bool false, (U22 17), (U22 18), (U22 19), .bool true, (U0 21), (U0 22), (U46 23), (U46 24), (U46 25), (U46 26), (U52 27), (U52 28), (U52 29), (U52 30), (U168 31), (U168 32), (U168 33), (U168 34), (U168 35), (U168 36), (U168 37), (U168 38), undef, undef, undef, undef, undef, undef, undef, undef, undef, (U168 48), (U168 49), (U168 50), (U168 51), (U168 52), (U168 53), (U168 54), (U168 55), (U168 56), (U168 57), (U168 58), (U168 59), (U168 60), (U168 61), (U168 62), (U168 63), (U168 64), (U168 65), (U168 66), (U168 67), (U168 68), (U168 69), (U168 70), (U168 71), (U168 72), (U168 73), (U168 74), .bool false, (U172 76), (U172 77), .bool true, (U195 79), (U195 80), (U193 81), (U193 82), (U193 83), (U193 84), (U193 85), (U193 86), (U193 87), (U193 88), (U193 89), undef, undef, undef, undef, undef, undef, undef, undef, .bool false].getD iU9 undef), (by kernel_rfl), rfl, (by omega), (upto_succ (Q := fun z => ¬ (z.pipe = x24.pipe ∧ z.node = x24.node)) hno hx177 (by omega)), x6, x44, c194⟩
                  · refine W.sq (v := .bool false) rfl (r_lss (m := ((j : Nat) : Int)) (n := ((K : Nat) : Int)) rfl (by kernel_rfl) (by kernel_rfl) (decide_eq_false q171)) (by kernel_rfl) rfl rfl ?_
                    refine W.sch_endU (fun U196 => [.agg #[.int .i64 m, .slice A n c], .slice A2 n2 c2, .pointer (some ⟨b2, 0, none⟩), undef, .bool false, .int .i64 ((K : Nat) : Int), .pointer (some ⟨b34, 0, none⟩), .int .i64 (findL ps x24.pipe), .int .i64 ((j : Nat) : Int), (U18 9), (U18 10), (U18 11), (U18 12), (U18 13), (U18 14), (U18 15), .bool false, (U22 17), (U22 18), (U22 19), .bool true, (U0 21), (U0 22), (U46 23), (U46 24), (U46 25), (U46 26), (U52 27), (U52 28), (U52 29), (U52 30), (U168 31), (U168 32), (U168 33), (U168 34), (U168 35), (U168 36), (U168 37), (U168 38), undef, undef, undef, undef, undef, undef, undef, undef, undef, (U168 48), (U168 49), (U168 50), (U168 51), (U168 52), (U168 53), (U168 54), (U168 55), (U168 56), (U168 57), (U168 58), (U168 59), (U168 60), (U168 61), (U168 62), (U168 63), (U168 64), (U168 65), (U168 66), (U168 67), (U168 68), (U168 69), (U168 70), (U168 71), (U168 72), (U168 73), (U168 74), .bool false, U196 76, U196 77, .bool false, (U1 79), (U1 80), (U1 81), (U1 82), (U1 83), (U1 84), (U1 85), (U1 86), (U1 87), (U1 88), (U1 89), (U1 90), (U1 91), (U1 92), (U1 93), (U1 94), (U1 95), (U1 96), (U1 97), (U1 98)]) (by kernel_rfl) (fun U196 => ?_)
                    refine h37 _ _ ?_
                    refine wp_cond_false (by kernel_rfl) ?_
                    refine wp_exit ?_
                    refine h10 _ _ ?_
                    refine W.region_quiet [(0, false), (1, false), (2, false)] (by kernel_rfl) ?_
                    refine W.sq (v := .int .i64 ((K : Nat) : Int)) rfl (r_move rfl (by kernel_rfl)) (by kernel_rfl) rfl rfl ?_
                    refine W.sq (v := .int .i64 ((K + 1 : Nat) : Int)) rfl (r_add (m := ((K : Nat) : Int)) (n := 1) (z := ((K + 1 : Nat) : Int)) rfl (by kernel_rfl) (by kernel_rfl) (by omega) (by omega)) (by kernel_rfl) rfl rfl ?_
                    refine W.sq (v := .int .i64 ((K + 1 : Nat) : Int)) rfl (r_assign rfl (by kernel_rfl)) (by kernel_rfl) rfl rfl ?_
                    refine W.sch_endU (fun U197 => [.agg #[.int .i64 m, .slice A n c], .slice A2 n2 c2, .pointer (some ⟨b2, 0, none⟩), undef, .bool false, .int .i64 ((K + 1 : Nat) : Int), .pointer (some ⟨b34, 0, none⟩), .int .i64 (findL ps x24.pipe), .int .i64 ((j : Nat) : Int), (U18 9), (U18 10), (U18 11), (U18 12), (U18 13), (U18 14), (U18 15), .bool false, (U22 17), (U22 18), (U22 19), .bool true, U197 21, U197 22, (U46 23), (U46 24), (U46 25), (U46 26), (U52 27), (U52 28), (U52 29), (U52 30), (U168 31), (U168 32), (U168 33), (U168 34), (U168 35), (U168 36), (U168 37), (U168 38), undef, undef, undef, undef, undef, undef, undef, undef, undef, (U168 48), (U168 49), (U168 50), (U168 51), (U168 52), (U168 53), (U168 54), (U168 55), (U168 56), (U168 57), (U168 58), (U168 59), (U168 60), (U168 61), (U168 62), (U168 63), (U168 64), (U168 65), (U168 66), (U168 67), (U168 68), (U168 69), (U168 70), (U168 71), (U168 72), (U168 73), (U168 74), .bool false, (U196 76), (U196 77), .bool false, (U1 79), (U1 80), (U1 81), (U1 82), (U1 83), (U1 84), (U1 85), (U1 86), (U1 87), (U1 88), (U1 89), (U1 90), (U1 91), (U1 92), (U1 93), (U1 94), (U1 95), (U1 96), (U1 97), (U1 98)]) (by kernel_rfl) (fun U197 => ?_)
                    exact h7 _ _ _ (by omega : (n2 - (K + 1)) < _) ⟨K + 1, (fun iU9 => [.agg #[.int .i64 m, .slice A n c], .slice A2 n2 c2, .pointer (some ⟨b2, 0, none⟩), undef, .bool false, .int .i64 ((K + 1 : Nat) : Int), .pointer (some ⟨b34, 0, none⟩), .int .i64 (findL ps x24.pipe), .int .i64 ((j : Nat) : Int), (U18 9), (U18 10), (U18 11), (U18 12), (U18 13), (U18 14), (U18 15), .bool false, (U22 17), (U22 18), (U22 19), .bool true, (U197 21), (U197 22), (U46 23), (U46 24), (U46 25), (U46 26), (U52 27), (U52 28), (U52 29), (U52 30), (U168 31), (U168 32), (U168 33), (U168 34), (U168 35), (U168 36), (U168 37), (U168 38), undef, undef, undef, undef, undef, undef, undef, undef, undef, (U168 48), (U168 49), (U168 50), (U168 51), (U168 52), (U168 53), (U168 54), (U168 55), (U168 56), (U168 57), (U168 58), (U168 59), (U168 60), (U168 61), (U168 62), (U168 63), (U168 64), (U168 65), (U168 66), (U168 67), (U168 68), (U168 69), (U168 70), (U168 71), (U168 72), (U168 73), (U168 74), .bool false, (U196 76), (U196 77), .bool false, (U1 79), (U1 80), (U1 81), (U1 82), (U1 83), (U1 84), (U1 85), (U1 86), (U1 87), (U1 88), (U1 89), (U1 90), (U1 91), (U1 92), (U1 93), (U1 94), (U1 95), (U1 96), (U1 97), (U1 98)].getD iU9 undef), (by kernel_rfl), rfl, (by omega), (okVTo_next hok ((okV_iff hx25).2 ⟨⟨inB_iff.1 q59, (by have e0 : K = 0 := (by omega); subst e0; exact above_zero)⟩, endAt_of (by omega) hx155 (by omega), placed_no hno (by omega)⟩)), x6, c170⟩
              · refine W.sq (v := .bool false) rfl (r_neq (m := x154.fr) (n := x24.node) rfl (by kernel_rfl) (by kernel_rfl) (decide_eq_false q164)) (by kernel_rfl) rfl rfl ?_
                refine W.sq (v := .bool false) rfl (r_move rfl (by kernel_rfl)) (by kernel_rfl) rfl rfl ?_
                refine W.sk s56 rfl (by kernel_rfl) rfl rfl ?_
                refine W.sk s56 rfl (by kernel_rfl) rfl rfl ?_
                refine W.sk s56 rfl (by kernel_rfl) rfl rfl ?_
                refine W.sk s56 rfl (by kernel_rfl) rfl rfl ?_
                refine W.sk s56 rfl (by kernel_rfl) rfl rfl ?_
                refine W.sk s56 rfl (by kernel_rfl) rfl rfl ?_
                refine W.sk s56 rfl (by kernel_rfl) rfl rfl ?_
                refine W.sk s56 rfl (by kernel_rfl) rfl rfl ?_
                refine W.sk s56 rfl (by kernel_rfl) rfl rfl ?_
                refine W.sq (v := .bool false) rfl (r_pick (b := false) rfl (by kernel_rfl) (by kernel_rfl)) (by kernel_rfl) rfl rfl ?_
                refine W.sq (v := .bool false) rfl (r_pick (b := false) rfl (by kernel_rfl) (by kernel_rfl)) (by kernel_rfl) rfl rfl ?_
                refine W.sch_endU (fun U198 => [.agg #[.int .i64 m, .slice A n c], .slice A2 n2 c2, .pointer (some ⟨b2, 0, none⟩), undef, .bool false, .int .i64 ((K : Nat) : Int), .pointer (some ⟨b34, 0, none⟩), .int .i64 (findL ps x24.pipe), (U0 8), (U18 9), (U18 10), (U18 11), (U18 12), (U18 13), (U18 14), (U18 15), .bool false, (U22 17), (U22 18), (U22 19), .bool true, (U0 21), (U0 22), (U46 23), (U46 24), (U46 25), (U46 26), (U52 27), (U52 28), (U52 29), (U52 30), U198 31, U198 32, U198 33, U198 34, U198 35, U198 36, U198 37, U198 38, undef, undef, undef, undef, undef, undef, undef, undef, undef, U198 48, U198 49, U198 50, U198 51, U198 52, U198 53, U198 54, U198 55, U198 56, U198 57, U198 58, U198 59, U198 60, U198 61, U198 62, U198 63, U198 64, undef, undef, undef, undef, undef, undef, undef, undef, undef, U198 74, .bool false, (U0 76), (U0 77), (U0 78), (U0 79), (U0 80), (U0 81), (U0 82), (U0 83), (U0 84), (U0 85), (U0 86), (U0 87), (U0 88), (U0 89), (U0 90), (U0 91), (U0 92), (U0 93), (U0 94), (U0 95), (U0 96), (U0 97), (U0 98)]) (by kernel_rfl) (fun U198 => ?_)
                have x6 := SG.blk s56 x6 (by simp)
                have x44 := SG.blk s56 x44 (by simp)
                have c199 := (SG.belowR c53 s56 (fun kq e => by cases e))
                refine h14 _ _ ?_
                refine wp_cond_false (by kernel_rfl) ?_
                refine wp_skip ?_
                refine h13 _ _ ?_
                refine wp_seq_k (fun K41 h41 => ?_)
                refine W.region_quiet [(0, false)] (by kernel_rfl) ?_
                refine W.sq (v := .int .i64 0) rfl (r_assign rfl (by kernel_rfl)) (by kernel_rfl) rfl rfl ?_
                refine W.sch_end (l' := [.agg #[.int .i64 m, .slice A n c], .slice A2 n2 c2, .pointer (some ⟨b2, 0, none⟩), undef, .bool false, .int .i64 ((K : Nat) : Int), .pointer (some ⟨b34, 0, none⟩), .int .i64 (findL ps x24.pipe), .int .i64 0, (U18 9), (U18 10), (U18 11), (U18 12), (U18 13), (U18 14), (U18 15), .bool false, (U22 17), (U22 18), (U22 19), .bool true, (U0 21), (U0 22), (U46 23), (U46 24), (U46 25), (U46 26), (U52 27), (U52 28), (U52 29), (U52 30), (U198 31), (U198 32), (U198 33), (U198 34), (U198 35), (U198 36), (U198 37), (U198 38), undef, undef, undef, undef, undef, undef, undef, undef, undef, (U198 48), (U198 49), (U198 50), (U198 51), (U198 52), (U198 53), (U198 54), (U198 55), (U198 56), (U198 57), (U198 58), (U198 59), (U198 60), (U198 61), (U198 62), (U198 63), (U198 64), undef, undef, undef, undef, undef, undef, undef, undef, undef, (U198 74), .bool false, (U0 76), (U0 77), (U0 78), (U0 79), (U0 80), (U0 81), (U0 82), (U0 83), (U0 84), (U0 85), (U0 86), (U0 87), (U0 88), (U0 89), (U0 90), (U0 91), (U0 92), (U0 93), (U0 94), (U0 95), (U0 96), (U0 97), (U0 98)]) (by kernel_rfl) ?_
                refine h41 _ _ ?_
                refine wp_block ?_
                refine loopK (fun am1 aa1 wl1 => ∃ (j : Nat) (U1 : Nat → Value), aa1 = ⟨[.agg #[.int .i64 m, .slice A n c], .slice A2 n2 c2, .pointer (some ⟨b2, 0, none⟩), undef, .bool false, .int .i64 ((K : Nat) : Int), .pointer (some ⟨b34, 0, none⟩), .int .i64 (findL ps x24.pipe), .int .i64 ((j : Nat) : Int), (U18 9), (U18 10), (U18 11), (U18 12), (U18 13), (U18 14), (U18 15), .bool false, (U22 17), (U22 18), (U22 19), .bool true, (U0 21), (U0 22), (U46 23), (U46 24), (U46 25), (U46 26), (U52 27), (U52 28), (U52 29), (U52 30), (U198 31), (U198 32), (U198 33), (U198 34), (U198 35), (U198 36), (U198 37), (U198 38), undef, undef, undef, undef, undef, undef, undef, undef, undef, (U198 48), (U198 49), (U198 50), (U198 51), (U198 52), (U198 53), (U198 54), (U198 55), (U198 56), (U198 57), (U198 58), (U198 59), (U198 60), (U198 61), (U198 62), (U198 63), (U198 64), undef, undef, undef, undef, undef, undef, undef, undef, undef, (U198 74), .bool false, U1 76, U1 77, U1 78, U1 79, U1 80, U1 81, U1 82, U1 83, U1 84, U1 85, U1 86, U1 87, U1 88, U1 89, U1 90, U1 91, U1 92, U1 93, U1 94, U1 95, U1 96, U1 97, U1 98].toArray, []⟩ ∧ (am1 = (K) - j) ∧ (j ≤ K) ∧ (∀ i z, i < j → vs[i]? = some z → ¬ (z.pipe = x24.pipe ∧ z.node = x24.node)) ∧ (wl1.heap[b2]? = some (.cells #[.int .i64 m, .slice A n c] 32 (0, 0))) ∧ (wl1.heap[b34]? = some (.cells #[.int .i64 x24.id, .int .i64 x24.pipe, .int .i64 x24.node, .bool x24.shut] 60 (0, 0))) ∧ (Below w.heap.size w wl1)) ((K) - 0) ?_ ?_
                · exact ⟨0, (fun iU9 => [.agg #[.int .i64 m, .slice A n c], .slice A2 n2 c2, .pointer (some ⟨b2, 0, none⟩), undef, .bool false, .int .i64 ((K : Nat) : Int), .pointer (some ⟨b34, 0, none⟩), .int .i64 (findL ps x24.pipe), .int .i64 0, (U18 9), (U18 10), (U18 11), (U18 12), (U18 13), (U18 14), (U18 15), .bool false, (U22 17), (U22 18), (U22 19), .bool true, (U0 21), (U0 22), (U46 23), (U46 24), (U46 25), (U46 26), (U52 27), (U52 28), (U52 29), (U52 30), (U198 31), (U198 32), (U198 33), (U198 34), (U198 35), (U198 36), (U198 37), (U198 38), undef, undef, undef, undef, undef, undef, undef, undef, undef, (U198 48), (U198 49), (U198 50), (U198 51), (U198 52), (U198 53), (U198 54), (U198 55), (U198 56), (U198 57), (U198 58), (U198 59), (U198 60), (U198 61), (U198 62), (U198 63), (U198 64), undef, undef, undef, undef, undef, undef, undef, undef, undef, (U198 74), .bool false, (U0 76), (U0 77), (U0 78), (U0 79), (U0 80), (U0 81), (U0 82), (U0 83), (U0 84), (U0 85), (U0 86), (U0 87), (U0 88), (U0 89), (U0 90), (U0 91), (U0 92), (U0 93), (U0 94), (U0 95), (U0 96), (U0 97), (U0 98)].getD iU9 undef), (by kernel_rfl), rfl, (Nat.zero_le _), (fun i z hi => absurd hi (by omega)), x6, x44, c199⟩
                rintro am1 aa1 wl1 K42 h42 ⟨j, U1, rfl, rfl, hj, hno, x6, x44, c200⟩
                refine wp_seq_k (fun K43 h43 => ?_)
                refine wp_seq_k (fun K44 h44 => ?_)
                refine W.region_quiet [(0, false), (1, false), (2, false)] (by kernel_rfl) ?_
                refine W.sq (v := .int .i64 ((j : Nat) : Int)) rfl (r_move rfl (by kernel_rfl)) (by kernel_rfl) rfl rfl ?_
                refine W.sq (v := .int .i64 ((K : Nat) : Int)) rfl (r_move rfl (by kernel_rfl)) (by kernel_rfl) rfl rfl ?_
                by_cases q201 : (((j : Nat) : Int) : Int) < (((K : Nat) : Int) : Int)
                · refine W.sq (v := .bool true) rfl (r_lss (m := ((j : Nat) : Int)) (n := ((K : Nat) : Int)) rfl (by kernel_rfl) (by kernel_rfl) (decide_eq_true q201)) (by kernel_rfl) rfl rfl ?_
                  refine W.sch_endU (fun U202 => [.agg #[.int .i64 m, .slice A n c], .slice A2 n2 c2, .pointer (some ⟨b2, 0, none⟩), undef, .bool false, .int .i64 ((K : Nat) : Int), .pointer (some ⟨b34, 0, none⟩), .int .i64 (findL ps x24.pipe), .int .i64 ((j : Nat) : Int), (U18 9), (U18 10), (U18 11), (U18 12), (U18 13), (U18 14), (U18 15), .bool false, (U22 17), (U22 18), (U22 19), .bool true, (U0 21), (U0 22), (U46 23), (U46 24), (U46 25), (U46 26), (U52 27), (U52 28), (U52 29), (U52 30), (U198 31), (U198 32), (U198 33), (U198 34), (U198 35), (U198 36), (U198 37), (U198 38), undef, undef, undef, undef, undef, undef, undef, undef, undef, (U198 48), (U198 49), (U198 50), (U198 51), (U198 52), (U198 53), (U198 54), (U198 55), (U198 56), (U198 57), (U198 58), (U198 59), (U198 60), (U198 61), (U198 62), (U198 63), (U198 64), undef, undef, undef, undef, undef, undef, undef, undef, undef, (U198 74), .bool false, U202 76, U202 77, .bool true, (U1 79), (U1 80), (U1 81), (U1 82), (U1 83), (U1 84), (U1 85), (U1 86), (U1 87), (U1 88), (U1 89), (U1 90), (U1 91), (U1 92), (U1 93), (U1 94), (U1 95), (U1 96), (U1 97), (U1 98)]) (by kernel_rfl) (fun U202 => ?_)
                  refine h44 _ _ ?_
                  refine wp_cond_true (by kernel_rfl) ?_
                  refine wp_skip ?_
                  refine h43 _ _ ?_
                  refine wp_seq_k (fun K45 h45 => ?_)
                  refine wp_block ?_
                  refine wp_seq_k (fun K46 h46 => ?_)
                  refine W.region_sch (row := none) (Sch.of [(0, false), (1, false), (2, false), (3, false), (4, false), (5, false), (6, false), (7, false), (8, false), (9, false), (10, false), (11, false), (12, false), (13, false), (14, false), (15, false), (16, false), (17, false)]) (by kernel_rfl) (by kernel_rfl) (fun _ d _ _ _ h => by cases d <;> exact h) (by kernel_rfl) (fun w203 e204 s205 => ?_)
                  refine W.sq (v := .slice A2 n2 c2) rfl (r_move rfl (by kernel_rfl)) (by kernel_rfl) rfl rfl ?_
                  refine W.sq (v := .int .i64 ((j : Nat) : Int)) rfl (r_move rfl (by kernel_rfl)) (by kernel_rfl) rfl rfl ?_
                  obtain ⟨x206, hx207⟩ := get_of (zs := vs) (k := j) (by have := hl2; omega)
                  obtain ⟨b208, o209, hA210, hb211, hc212, hc213, hc214, hc215⟩ := Rd.elValve hb hx207
                  refine W.sq (v := .pointer (some ⟨b208, o209 + j * 4, none⟩)) rfl (r_idx (n := n2) (c := c2) (k := j) rfl (by kernel_rfl) hA210 (by kernel_rfl) (by kernel_rfl) (by have := hl2; omega)) (by kernel_rfl) rfl rfl ?_
                  refine W.sq (v := .pointer (some ⟨b208, o209 + j * 4 + 1, none⟩)) rfl (r_field (k := 1) rfl (by kernel_rfl) (by kernel_rfl)) (by kernel_rfl) rfl rfl ?_
                  refine W.sq (v := .int .i64 x206.pipe) rfl (r_load rfl (by kernel_rfl) (by kernel_rfl) (sgS (later c200 hc213) (by simp))) (by kernel_rfl) rfl rfl ?_
                  refine W.sq (v := .pointer (some ⟨b34, 1, none⟩)) rfl (r_field (k := 1) rfl (by kernel_rfl) (by kernel_rfl)) (by kernel_rfl) rfl rfl ?_
                  refine W.sq (v := .int .i64 x24.pipe) rfl (r_load rfl (by kernel_rfl) (by kernel_rfl) (sgS (blk_cell (j := 1) x44 (by kernel_rfl)) (by simp))) (by kernel_rfl) rfl rfl ?_
                  by_cases q216 : (x206.pipe : Int) = (x24.pipe : Int)
                  · refine W.sq (v := .bool true) rfl (r_eql (m := x206.pipe) (n := x24.pipe) rfl (by kernel_rfl) (by kernel_rfl) (decide_eq_true q216)) (by kernel_rfl) rfl rfl ?_
                    refine W.sq (v := .bool true) rfl (r_move rfl (by kernel_rfl)) (by kernel_rfl) rfl rfl ?_
                    refine W.sq (v := .slice A2 n2 c2) rfl (r_move rfl (by kernel_rfl)) (by kernel_rfl) rfl rfl ?_
                    refine W.sq (v := .int .i64 ((j : Nat) : Int)) rfl (r_move rfl (by kernel_rfl)) (by kernel_rfl) rfl rfl ?_
                    refine W.sq (v := .pointer (some ⟨b208, o209 + j * 4, none⟩)) rfl (r_idx (n := n2) (c := c2) (k := j) rfl (by kernel_rfl) hA210 (by kernel_rfl) (by kernel_rfl) (by have := hl2; omega)) (by kernel_rfl) rfl rfl ?_
                    refine W.sq (v := .pointer (some ⟨b208, o209 + j * 4 + 2, none⟩)) rfl (r_field (k := 2) rfl (by kernel_rfl) (by kernel_rfl)) (by kernel_rfl) rfl rfl ?_
                    refine W.sq (v := .int .i64 x206.node) rfl (r_load rfl (by kernel_rfl) (by kernel_rfl) (sgS (later c200 hc214) (by simp))) (by kernel_rfl) rfl rfl ?_
                    refine W.sq (v := .pointer (some ⟨b34, 2, none⟩)) rfl (r_field (k := 2) rfl (by kernel_rfl) (by kernel_rfl)) (by kernel_rfl) rfl rfl ?_
                    refine W.sq (v := .int .i64 x24.node) rfl (r_load rfl (by kernel_rfl) (by kernel_rfl) (sgS (blk_cell (j := 2) x44 (by kernel_rfl)) (by simp))) (by kernel_rfl) rfl rfl ?_
                    by_cases q217 : (x206.node : Int) = (x24.node : Int)
                    · refine W.sq (v := .bool true) rfl (r_eql (m := x206.node) (n := x24.node) rfl (by kernel_rfl) (by kernel_rfl) (decide_eq_true q217)) (by kernel_rfl) rfl rfl ?_
                      refine W.sq (v := .bool true) rfl (r_pick (b := true) rfl (by kernel_rfl) (by kernel_rfl)) (by kernel_rfl) rfl rfl ?_
                      refine W.sch_endU (fun U218 => [.agg #[.int .i64 m, .slice A n c], .slice A2 n2 c2, .pointer (some ⟨b2, 0, none⟩), undef, .bool false, .int .i64 ((K : Nat) : Int), .pointer (some ⟨b34, 0, none⟩), .int .i64 (findL ps x24.pipe), .int .i64 ((j : Nat) : Int), (U18 9), (U18 10), (U18 11), (U18 12), (U18 13), (U18 14), (U18 15), .bool false, (U22 17), (U22 18), (U22 19), .bool true, (U0 21), (U0 22), (U46 23), (U46 24), (U46 25), (U46 26), (U52 27), (U52 28), (U52 29), (U52 30), (U198 31), (U198 32), (U198 33), (U198 34), (U198 35), (U198 36), (U198 37), (U198 38), undef, undef, undef, undef, undef, undef, undef, undef, undef, (U198 48), (U198 49), (U198 50), (U198 51), (U198 52), (U198 53), (U198 54), (U198 55), (U198 56), (U198 57), (U198 58), (U198 59), (U198 60), (U198 61), (U198 62), (U198 63), (U198 64), undef, undef, undef, undef, undef, undef, undef, undef, undef, (U198 74), .bool false, (U202 76), (U202 77), .bool true, (U1 79), (U1 80), U218 81, U218 82, U218 83, U218 84, U218 85, U218 86, U218 87, U218 88, U218 89, U218 90, U218 91, U218 92, U218 93, U218 94, U218 95, U218 96, U218 97, .bool true]) (by kernel_rfl) (fun U218 => ?_)
                      have x6 := SG.blk s205 x6 (by simp)
                      have x44 := SG.blk s205 x44 (by simp)
                      have c219 := (SG.belowR c200 s205 (fun kq e => by cases e))
                      refine h46 _ _ ?_
                      refine wp_cond_true (by kernel_rfl) ?_
                      refine wp_seq_k (fun K47 h47 => ?_)
                      refine W.region_quiet [(0, false)] (by kernel_rfl) ?_
                      refine W.sq (v := .bool false) rfl (r_assign rfl (by kernel_rfl)) (by kernel_rfl) rfl rfl ?_
                      refine W.sch_end (l' := [.agg #[.int .i64 m, .slice A n c], .slice A2 n2 c2, .pointer (some ⟨b2, 0, none⟩), undef, .bool false, .int .i64 ((K : Nat) : Int), .pointer (some ⟨b34, 0, none⟩), .int .i64 (findL ps x24.pipe), .int .i64 ((j : Nat) : Int), (U18 9), (U18 10), (U18 11), (U18 12), (U18 13), (U18 14), (U18 15), .bool false, (U22 17), (U22 18), (U22 19), .bool true, (U0 21), (U0 22), (U46 23), (U46 24), (U46 25), (U46 26), (U52 27), (U52 28), (U52 29), (U52 30), (U198 31), (U198 32), (U198 33), (U198 34), (U198 35), (U198 36), (U198 37), (U198 38), undef, undef, undef, undef, undef, undef, undef, undef, undef, (U198 48), (U198 49), (U198 50), (U198 51), (U198 52), (U198 53), (U198 54), (U198 55), (U198 56), (U198 57), (U198 58), (U198 59), (U198 60), (U198 61), (U198 62), (U198 63), (U198 64), undef, undef, undef, undef, undef, undef, undef, undef, undef, (U198 74), .bool false, (U202 76), (U202 77), .bool true, (U1 79), (U1 80), (U218 81), (U218 82), (U218 83), (U218 84), (U218 85), (U218 86), (U218 87), (U218 88), (U218 89), (U218 90), (U218 91), (U218 92), (U218 93), (U218 94), (U218 95), (U218 96), (U218 97), .bool true]) (by kernel_rfl) ?_
                      refine h47 _ _ ?_
                      refine wp_ret ?_
                      try simp only [Exit.then, Exit.inBlock]
                      refine ret1 (v := .bool false) rfl (by kernel_rfl) ?_
                      have e8 : okV ps vs (K) = false := Bool.eq_false_iff.2 (fun h9 => by
                        have h8 := (okV_iff hx25).1 h9
                        obtain ⟨⟨hA, hB⟩, hC, hD⟩ := h8
                        obtain ⟨hC0, p9, hp9, hC1⟩ := endAt_pos hC
                        obtain rfl := Option.some.inj (hp9.symm.trans hx155)
                        exact absurd (placed_yes (k := K) (a := x24.pipe) (b := x24.node) hx207 (by omega) q216 q217) (by rw [hD]; simp))
                      exact ⟨ret_bool (goodV_bad (k := K) (by omega) e8).symm, c219⟩
                    · refine W.sq (v := .bool false) rfl (r_eql (m := x206.node) (n := x24.node) rfl (by kernel_rfl) (by kernel_rfl) (decide_eq_false q217)) (by kernel_rfl) rfl rfl ?_
                      refine W.sq (v := .bool false) rfl (r_pick (b := true) rfl (by kernel_rfl) (by kernel_rfl)) (by kernel_rfl) rfl rfl ?_
                      refine W.sch_endU (fun U220 => [.agg #[.int .i64 m, .slice A n c], .slice A2 n2 c2, .pointer (some ⟨b2, 0, none⟩), undef, .bool false, .int .i64 ((K : Nat) : Int), .pointer (some ⟨b34, 0, none⟩), .int .i64 (findL ps x24.pipe), .int .i64 ((j : Nat) : Int), (U18 9), (U18 10), (U18 11), (U18 12), (U18 13), (U18 14), (U18 15), .bool false, (U22 17), (U22 18), (U22 19), .bool true, (U0 21), (U0 22), (U46 23), (U46 24), (U46 25), (U46 26), (U52 27), (U52 28), (U52 29), (U52 30), (U198 31), (U198 32), (U198 33), (U198 34), (U198 35), (U198 36), (U198 37), (U198 38), undef, undef, undef, undef, undef, undef, undef, undef, undef, (U198 48), (U198 49), (U198 50), (U198 51), (U198 52), (U198 53), (U198 54), (U198 55), (U198 56), (U198 57), (U198 58), (U198 59), (U198 60), (U198 61), (U198 62), (U198 63), (U198 64), undef, undef, undef, undef, undef, undef, undef, undef, undef, (U198 74), .bool false, (U202 76), (U202 77), .bool true, (U1 79), (U1 80), U220 81, U220 82, U220 83, U220 84, U220 85, U220 86, U220 87, U220 88, U220 89, U220 90, U220 91, U220 92, U220 93, U220 94, U220 95, U220 96, U220 97, .bool false]) (by kernel_rfl) (fun U220 => ?_)
                      have x6 := SG.blk s205 x6 (by simp)
                      have x44 := SG.blk s205 x44 (by simp)
                      have c221 := (SG.belowR c200 s205 (fun kq e => by cases e))
                      refine h46 _ _ ?_
                      refine wp_cond_false (by kernel_rfl) ?_
                      refine wp_skip ?_
                      refine h45 _ _ ?_
                      refine W.region_quiet [(0, false), (1, false), (2, false)] (by kernel_rfl) ?_
                      refine W.sq (v := .int .i64 ((j : Nat) : Int)) rfl (r_move rfl (by kernel_rfl)) (by kernel_rfl) rfl rfl ?_
                      refine W.sq (v := .int .i64 ((j + 1 : Nat) : Int)) rfl (r_add (m := ((j : Nat) : Int)) (n := 1) (z := ((j + 1 : Nat) : Int)) rfl (by kernel_rfl) (by kernel_rfl) (by omega) (by omega)) (by kernel_rfl) rfl rfl ?_
                      refine W.sq (v := .int .i64 ((j + 1 : Nat) : Int)) rfl (r_assign rfl (by kernel_rfl)) (by kernel_rfl) rfl rfl ?_
                      refine W.sch_endU (fun U222 => [.agg #[.int .i64 m, .slice A n c], .slice A2 n2 c2, .pointer (some ⟨b2, 0, none⟩), undef, .bool false, .int .i64 ((K : Nat) : Int), .pointer (some ⟨b34, 0, none⟩), .int .i64 (findL ps x24.pipe), .int .i64 ((j + 1 : Nat) : Int), (U18 9), (U18 10), (U18 11), (U18 12), (U18 13), (U18 14), (U18 15), .bool false, (U22 17), (U22 18), (U22 19), .bool true, (U0 21), (U0 22), (U46 23), (U46 24), (U46 25), (U46 26), (U52 27), (U52 28), (U52 29), (U52 30), (U198 31), (U198 32), (U198 33), (U198 34), (U198 35), (U198 36), (U198 37), (U198 38), undef, undef, undef, undef, undef, undef, undef, undef, undef, (U198 48), (U198 49), (U198 50), (U198 51), (U198 52), (U198 53), (U198 54), (U198 55), (U198 56), (U198 57), (U198 58), (U198 59), (U198 60), (U198 61), (U198 62), (U198 63), (U198 64), undef, undef, undef, undef, undef, undef, undef, undef, undef, (U198 74), .bool false, (U202 76), (U202 77), .bool true, U222 79, U222 80, (U220 81), (U220 82), (U220 83), (U220 84), (U220 85), (U220 86), (U220 87), (U220 88), (U220 89), (U220 90), (U220 91), (U220 92), (U220 93), (U220 94), (U220 95), (U220 96), (U220 97), .bool false]) (by kernel_rfl) (fun U222 => ?_)
                      exact h42 _ _ _ (by omega : ((K) - (j + 1)) < _) ⟨j + 1, (fun iU9 => [.agg #[.int .i64 m, .slice A n c], .slice A2 n2 c2, .pointer (some ⟨b2, 0, none⟩), undef, .bool false, .int .i64 ((K : Nat) : Int), .pointer (some ⟨b34, 0, none⟩), .int .i64 (findL ps x24.pipe), .int .i64 ((j + 1 : Nat) : Int), (U18 9), (U18 10), (U18 11), (U18 12), (U18 13), (U18 14), (U18 15), .bool false, (U22 17), (U22 18), (U22 19), .bool true, (U0 21), (U0 22), (U46 23), (U46 24), (U46 25), (U46 26), (U52 27), (U52 28), (U52 29), (U52 30), (U198 31), (U198 32), (U198 33), (U198 34), (U198 35), (U198 36), (U198 37), (U198 38), undef, undef, undef, undef, undef, undef, undef, undef, undef, (U198 48), (U198 49), (U198 50), (U198 51), (U198 52), (U198 53), (U198 54), (U198 55), (U198 56), (U198 57), (U198 58), (U198 59), (U198 60), (U198 61), (U198 62), (U198 63), (U198 64), undef, undef, undef, undef, undef, undef, undef, undef, undef, (U198 74), .bool false, (U202 76), (U202 77), .bool true, (U222 79), (U222 80), (U220 81), (U220 82), (U220 83), (U220 84), (U220 85), (U220 86), (U220 87), (U220 88), (U220 89), (U220 90), (U220 91), (U220 92), (U220 93), (U220 94), (U220 95), (U220 96), (U220 97), .bool false].getD iU9 undef), (by kernel_rfl), rfl, (by omega), (upto_succ (Q := fun z => ¬ (z.pipe = x24.pipe ∧ z.node = x24.node)) hno hx207 (by omega)), x6, x44, c221⟩
                  · refine W.sq (v := .bool false) rfl (r_eql (m := x206.pipe) (n := x24.pipe) rfl (by kernel_rfl) (by kernel_rfl) (decide_eq_false q216)) (by kernel_rfl) rfl rfl ?_
                    refine W.sq (v := .bool false) rfl (r_move rfl (by kernel_rfl)) (by kernel_rfl) rfl rfl ?_
                    refine W.sk s205 rfl (by kernel_rfl) rfl rfl ?_
                    refine W.sk s205 rfl (by kernel_rfl) rfl rfl ?_
                    refine W.sk s205 rfl (by kernel_rfl) rfl rfl ?_
                    refine W.sk s205 rfl (by kernel_rfl) rfl rfl ?_
                    refine W.sk s205 rfl (by kernel_rfl) rfl rfl ?_
                    refine W.sk s205 rfl (by kernel_rfl) rfl rfl ?_
                    refine W.sk s205 rfl (by kernel_rfl) rfl rfl ?_
                    refine W.sk s205 rfl (by kernel_rfl) rfl rfl ?_
                    refine W.sq (v := .bool false) rfl (r_pick (b := false) rfl (by kernel_rfl) (by kernel_rfl)) (by kernel_rfl) rfl rfl ?_
                    refine W.sch_endU (fun U223 => [.agg #[.int .i64 m, .slice A n c], .slice A2 n2 c2, .pointer (some ⟨b2, 0, none⟩), undef, .bool false, .int .i64 ((K : Nat) : Int), .pointer (some ⟨b34, 0, none⟩), .int .i64 (findL ps x24.pipe), .int .i64 ((j : Nat) : Int), (U18 9), (U18 10), (U18 11), (U18 12), (U18 13), (U18 14), (U18 15), .bool false, (U22 17), (U22 18), (U22 19), .bool true, (U0 21), (U0 22), (U46 23), (U46 24), (U46 25), (U46 26), (U52 27), (U52 28), (U52 29), (U52 30), (U198 31), (U198 32), (U198 33), (U198 34), (U198 35), (U198 36), (U198 37), (U198 38), undef, undef, undef, undef, undef, undef, undef, undef, undef, (U198 48), (U198 49), (U198 50), (U198 51), (U198 52), (U198 53), (U198 54), (U198 55), (U198 56), (U198 57), (U198 58), (U198 59), (U198 60), (U198 61), (U198 62), (U198 63), (U198 64), undef, undef, undef, undef, undef, undef, undef, undef, undef, (U198 74), .bool false, (U202 76), (U202 77), .bool true, (U1 79), (U1 80), U223 81, U223 82, U223 83, U223 84, U223 85, U223 86, U223 87, U223 88, U223 89, undef, undef, undef, undef, undef, undef, undef, undef, .bool false]) (by kernel_rfl) (fun U223 => ?_)
                    have x6 := SG.blk s205 x6 (by simp)
                    have x44 := SG.blk s205 x44 (by simp)
                    have c224 := (SG.belowR c200 s205 (fun kq e => by cases e))
                    refine h46 _ _ ?_
                    refine wp_cond_false (by kernel_rfl) ?_
                    refine wp_skip ?_
                    refine h45 _ _ ?_
                    refine W.region_quiet [(0, false), (1, false), (2, false)] (by kernel_rfl) ?_
                    refine W.sq (v := .int .i64 ((j : Nat) : Int)) rfl (r_move rfl (by kernel_rfl)) (by kernel_rfl) rfl rfl ?_
                    refine W.sq (v := .int .i64 ((j + 1 : Nat) : Int)) rfl (r_add (m := ((j : Nat) : Int)) (n := 1) (z := ((j + 1 : Nat) : Int)) rfl (by kernel_rfl) (by kernel_rfl) (by omega) (by omega)) (by kernel_rfl) rfl rfl ?_
                    refine W.sq (v := .int .i64 ((j + 1 : Nat) : Int)) rfl (r_assign rfl (by kernel_rfl)) (by kernel_rfl) rfl rfl ?_
                    refine W.sch_endU (fun U225 => [.agg #[.int .i64 m, .slice A n c], .slice A2 n2 c2, .pointer (some ⟨b2, 0, none⟩), undef, .bool false, .int .i64 ((K : Nat) : Int), .pointer (some ⟨b34, 0, none⟩), .int .i64 (findL ps x24.pipe), .int .i64 ((j + 1 : Nat) : Int), (U18 9), (U18 10), (U18 11), (U18 12), (U18 13), (U18 14), (U18 15), .bool false, (U22 17), (U22 18), (U22 19), .bool true, (U0 21), (U0 22), (U46 23), (U46 24), (U46 25), (U46 26), (U52 27), (U52 28), (U52 29), (U52 30), (U198 31), (U198 32), (U198 33), (U198 34), (U198 35), (U198 36), (U198 37), (U198 38), undef, undef, undef, undef, undef, undef, undef, undef, undef, (U198 48), (U198 49), (U198 50), (U198 51), (U198 52), (U198 53), (U198 54), (U198 55), (U198 56), (U198 57), (U198 58), (U198 59), (U198 60), (U198 61), (U198 62), (U198 63), (U198 64), undef, undef, undef, undef, undef, undef, undef, undef, undef, (U198 74), .bool false, (U202 76), (U202 77), .bool true, U225 79, U225 80, (U223 81), (U223 82), (U223 83), (U223 84), (U223 85), (U223 86), (U223 87), (U223 88), (U223 89), undef, undef, undef, undef, undef, undef, undef, undef, .bool false]) (by kernel_rfl) (fun U225 => ?_)
                    exact h42 _ _ _ (by omega : ((K) - (j + 1)) < _) ⟨j + 1, (fun iU9 => [.agg #[.int .i64 m, .slice A n c], .slice A2 n2 c2, .pointer (some ⟨b2, 0, none⟩), undef, .bool false, .int .i64 ((K : Nat) : Int), .pointer (some ⟨b34, 0, none⟩), .int .i64 (findL ps x24.pipe), .int .i64 ((j + 1 : Nat) : Int), (U18 9), (U18 10), (U18 11), (U18 12), (U18 13), (U18 14), (U18 15), .bool false, (U22 17), (U22 18), (U22 19), .bool true, (U0 21), (U0 22), (U46 23), (U46 24), (U46 25), (U46 26), (U52 27), (U52 28), (U52 29), (U52 30), (U198 31), (U198 32), (U198 33), (U198 34), (U198 35), (U198 36), (U198 37), (U198 38), undef, undef, undef, undef, undef, undef, undef, undef, undef, (U198 48), (U198 49), (U198 50), (U198 51), (U198 52), (U198 53), (U198 54), (U198 55), (U198 56), (U198 57), (U198 58), (U198 59), (U198 60), (U198 61), (U198 62), (U198 63), (U198 64), undef, undef, undef, undef, undef, undef, undef, undef, undef, (U198 74), .bool false, (U202 76), (U202 77), .bool true, (U225 79), (U225 80), (U223 81), (U223 82), (U223 83), (U223 84), (U223 85), (U223 86), (U223 87), (U223 88), (U223 89), undef, undef, undef, undef, undef, undef, undef, undef, .bool false].getD iU9 undef), (by kernel_rfl), rfl, (by omega), (upto_succ (Q := fun z => ¬ (z.pipe = x24.pipe ∧ z.node = x24.node)) hno hx207 (by omega)), x6, x44, c224⟩
                · refine W.sq (v := .bool false) rfl (r_lss (m := ((j : Nat) : Int)) (n := ((K : Nat) : Int)) rfl (by kernel_rfl) (by kernel_rfl) (decide_eq_false q201)) (by kernel_rfl) rfl rfl ?_
                  refine W.sch_endU (fun U226 => [.agg #[.int .i64 m, .slice A n c], .slice A2 n2 c2, .pointer (some ⟨b2, 0, none⟩), undef, .bool false, .int .i64 ((K : Nat) : Int), .pointer (some ⟨b34, 0, none⟩), .int .i64 (findL ps x24.pipe), .int .i64 ((j : Nat) : Int), (U18 9), (U18 10), (U18 11), (U18 12), (U18 13), (U18 14), (U18 15), .bool false, (U22 17), (U22 18), (U22 19), .bool true, (U0 21), (U0 22), (U46 23), (U46 24), (U46 25), (U46 26), (U52 27), (U52 28), (U52 29), (U52 30), (U198 31), (U198 32), (U198 33), (U198 34), (U198 35), (U198 36), (U198 37), (U198 38), undef, undef, undef, undef, undef, undef, undef, undef, undef, (U198 48), (U198 49), (U198 50), (U198 51), (U198 52), (U198 53), (U198 54), (U198 55), (U198 56), (U198 57), (U198 58), (U198 59), (U198 60), (U198 61), (U198 62), (U198 63), (U198 64), undef, undef, undef, undef, undef, undef, undef, undef, undef, (U198 74), .bool false, U226 76, U226 77, .bool false, (U1 79), (U1 80), (U1 81), (U1 82), (U1 83), (U1 84), (U1 85), (U1 86), (U1 87), (U1 88), (U1 89), (U1 90), (U1 91), (U1 92), (U1 93), (U1 94), (U1 95), (U1 96), (U1 97), (U1 98)]) (by kernel_rfl) (fun U226 => ?_)
                  refine h44 _ _ ?_
                  refine wp_cond_false (by kernel_rfl) ?_
                  refine wp_exit ?_
                  refine h10 _ _ ?_
                  refine W.region_quiet [(0, false), (1, false), (2, false)] (by kernel_rfl) ?_
                  refine W.sq (v := .int .i64 ((K : Nat) : Int)) rfl (r_move rfl (by kernel_rfl)) (by kernel_rfl) rfl rfl ?_
                  refine W.sq (v := .int .i64 ((K + 1 : Nat) : Int)) rfl (r_add (m := ((K : Nat) : Int)) (n := 1) (z := ((K + 1 : Nat) : Int)) rfl (by kernel_rfl) (by kernel_rfl) (by omega) (by omega)) (by kernel_rfl) rfl rfl ?_
                  refine W.sq (v := .int .i64 ((K + 1 : Nat) : Int)) rfl (r_assign rfl (by kernel_rfl)) (by kernel_rfl) rfl rfl ?_
                  refine W.sch_endU (fun U227 => [.agg #[.int .i64 m, .slice A n c], .slice A2 n2 c2, .pointer (some ⟨b2, 0, none⟩), undef, .bool false, .int .i64 ((K + 1 : Nat) : Int), .pointer (some ⟨b34, 0, none⟩), .int .i64 (findL ps x24.pipe), .int .i64 ((j : Nat) : Int), (U18 9), (U18 10), (U18 11), (U18 12), (U18 13), (U18 14), (U18 15), .bool false, (U22 17), (U22 18), (U22 19), .bool true, U227 21, U227 22, (U46 23), (U46 24), (U46 25), (U46 26), (U52 27), (U52 28), (U52 29), (U52 30), (U198 31), (U198 32), (U198 33), (U198 34), (U198 35), (U198 36), (U198 37), (U198 38), undef, undef, undef, undef, undef, undef, undef, undef, undef, (U198 48), (U198 49), (U198 50), (U198 51), (U198 52), (U198 53), (U198 54), (U198 55), (U198 56), (U198 57), (U198 58), (U198 59), (U198 60), (U198 61), (U198 62), (U198 63), (U198 64), undef, undef, undef, undef, undef, undef, undef, undef, undef, (U198 74), .bool false, (U226 76), (U226 77), .bool false, (U1 79), (U1 80), (U1 81), (U1 82), (U1 83), (U1 84), (U1 85), (U1 86), (U1 87), (U1 88), (U1 89), (U1 90), (U1 91), (U1 92), (U1 93), (U1 94), (U1 95), (U1 96), (U1 97), (U1 98)]) (by kernel_rfl) (fun U227 => ?_)
                  exact h7 _ _ _ (by omega : (n2 - (K + 1)) < _) ⟨K + 1, (fun iU9 => [.agg #[.int .i64 m, .slice A n c], .slice A2 n2 c2, .pointer (some ⟨b2, 0, none⟩), undef, .bool false, .int .i64 ((K + 1 : Nat) : Int), .pointer (some ⟨b34, 0, none⟩), .int .i64 (findL ps x24.pipe), .int .i64 ((j : Nat) : Int), (U18 9), (U18 10), (U18 11), (U18 12), (U18 13), (U18 14), (U18 15), .bool false, (U22 17), (U22 18), (U22 19), .bool true, (U227 21), (U227 22), (U46 23), (U46 24), (U46 25), (U46 26), (U52 27), (U52 28), (U52 29), (U52 30), (U198 31), (U198 32), (U198 33), (U198 34), (U198 35), (U198 36), (U198 37), (U198 38), undef, undef, undef, undef, undef, undef, undef, undef, undef, (U198 48), (U198 49), (U198 50), (U198 51), (U198 52), (U198 53), (U198 54), (U198 55), (U198 56), (U198 57), (U198 58), (U198 59), (U198 60), (U198 61), (U198 62), (U198 63), (U198 64), undef, undef, undef, undef, undef, undef, undef, undef, undef, (U198 74), .bool false, (U226 76), (U226 77), .bool false, (U1 79), (U1 80), (U1 81), (U1 82), (U1 83), (U1 84), (U1 85), (U1 86), (U1 87), (U1 88), (U1 89), (U1 90), (U1 91), (U1 92), (U1 93), (U1 94), (U1 95), (U1 96), (U1 97), (U1 98)].getD iU9 undef), (by kernel_rfl), rfl, (by omega), (okVTo_next hok ((okV_iff hx25).2 ⟨⟨inB_iff.1 q59, (by have e0 : K = 0 := (by omega); subst e0; exact above_zero)⟩, endAt_of (by omega) hx155 (by omega), placed_no hno (by omega)⟩)), x6, c200⟩
        · rw [q59]
          refine W.sq (v := .bool true) rfl (r_not (b := false) rfl (by kernel_rfl) rfl) (by kernel_rfl) rfl rfl ?_
          refine W.sq (v := .bool true) rfl (r_move rfl (by kernel_rfl)) (by kernel_rfl) rfl rfl ?_
          refine W.sk s56 rfl (by kernel_rfl) rfl rfl ?_
          refine W.sk s56 rfl (by kernel_rfl) rfl rfl ?_
          refine W.sk s56 rfl (by kernel_rfl) rfl rfl ?_
          refine W.sk s56 rfl (by kernel_rfl) rfl rfl ?_
          refine W.sk s56 rfl (by kernel_rfl) rfl rfl ?_
          refine W.sk s56 rfl (by kernel_rfl) rfl rfl ?_
          refine W.sk s56 rfl (by kernel_rfl) rfl rfl ?_
          refine W.sk s56 rfl (by kernel_rfl) rfl rfl ?_
          refine W.sk s56 rfl (by kernel_rfl) rfl rfl ?_
          refine W.sk s56 rfl (by kernel_rfl) rfl rfl ?_
          refine W.sk s56 rfl (by kernel_rfl) rfl rfl ?_
          refine W.sk s56 rfl (by kernel_rfl) rfl rfl ?_
          refine W.sk s56 rfl (by kernel_rfl) rfl rfl ?_
          refine W.sq (v := .bool true) rfl (r_pick (b := true) rfl (by kernel_rfl) (by kernel_rfl)) (by kernel_rfl) rfl rfl ?_
          refine W.sq (v := .bool true) rfl (r_move rfl (by kernel_rfl)) (by kernel_rfl) rfl rfl ?_
          refine W.sk s56 rfl (by kernel_rfl) rfl rfl ?_
          refine W.sk s56 rfl (by kernel_rfl) rfl rfl ?_
          refine W.sq (v := .bool true) rfl (r_pick (b := true) rfl (by kernel_rfl) (by kernel_rfl)) (by kernel_rfl) rfl rfl ?_
          refine W.sq (v := .bool true) rfl (r_move rfl (by kernel_rfl)) (by kernel_rfl) rfl rfl ?_
          refine W.sk s56 rfl (by kernel_rfl) rfl rfl ?_
          refine W.sk s56 rfl (by kernel_rfl) rfl rfl ?_
          refine W.sk s56 rfl (by kernel_rfl) rfl rfl ?_
          refine W.sk s56 rfl (by kernel_rfl) rfl rfl ?_
          refine W.sk s56 rfl (by kernel_rfl) rfl rfl ?_
          refine W.sk s56 rfl (by kernel_rfl) rfl rfl ?_
          refine W.sk s56 rfl (by kernel_rfl) rfl rfl ?_
          refine W.sk s56 rfl (by kernel_rfl) rfl rfl ?_
          refine W.sk s56 rfl (by kernel_rfl) rfl rfl ?_
          refine W.sk s56 rfl (by kernel_rfl) rfl rfl ?_
          refine W.sk s56 rfl (by kernel_rfl) rfl rfl ?_
          refine W.sk s56 rfl (by kernel_rfl) rfl rfl ?_
          refine W.sk s56 rfl (by kernel_rfl) rfl rfl ?_
          refine W.sk s56 rfl (by kernel_rfl) rfl rfl ?_
          refine W.sk s56 rfl (by kernel_rfl) rfl rfl ?_
          refine W.sk s56 rfl (by kernel_rfl) rfl rfl ?_
          refine W.sk s56 rfl (by kernel_rfl) rfl rfl ?_
          refine W.sk s56 rfl (by kernel_rfl) rfl rfl ?_
          refine W.sk s56 rfl (by kernel_rfl) rfl rfl ?_
          refine W.sk s56 rfl (by kernel_rfl) rfl rfl ?_
          refine W.sq (v := .bool true) rfl (r_pick (b := true) rfl (by kernel_rfl) (by kernel_rfl)) (by kernel_rfl) rfl rfl ?_
          refine W.sch_endU (fun U228 => [.agg #[.int .i64 m, .slice A n c], .slice A2 n2 c2, .pointer (some ⟨b2, 0, none⟩), undef, .bool false, .int .i64 ((K : Nat) : Int), .pointer (some ⟨b34, 0, none⟩), .int .i64 (findL ps x24.pipe), (U0 8), (U18 9), (U18 10), (U18 11), (U18 12), (U18 13), (U18 14), (U18 15), .bool false, (U22 17), (U22 18), (U22 19), .bool true, (U0 21), (U0 22), (U46 23), (U46 24), (U46 25), (U46 26), (U52 27), (U52 28), (U52 29), (U52 30), U228 31, U228 32, U228 33, U228 34, U228 35, undef, undef, undef, undef, undef, undef, undef, undef, undef, undef, undef, undef, undef, U228 49, U228 50, undef, undef, U228 53, U228 54, undef, undef, undef, undef, undef, undef, undef, undef, undef, undef, undef, undef, undef, undef, undef, undef, undef, undef, undef, undef, .bool true, (U0 76), (U0 77), (U0 78), (U0 79), (U0 80), (U0 81), (U0 82), (U0 83), (U0 84), (U0 85), (U0 86), (U0 87), (U0 88), (U0 89), (U0 90), (U0 91), (U0 92), (U0 93), (U0 94), (U0 95), (U0 96), (U0 97), (U0 98)]) (by kernel_rfl) (fun U228 => ?_)
          have x6 := SG.blk s56 x6 (by simp)
          have x44 := SG.blk s56 x44 (by simp)
          have c229 := (SG.belowR c53 s56 (fun kq e => by cases e))
          refine h14 _ _ ?_
          refine wp_cond_true (by kernel_rfl) ?_
          refine wp_seq_k (fun K48 h48 => ?_)
          refine W.region_quiet [(0, false)] (by kernel_rfl) ?_
          refine W.sq (v := .bool false) rfl (r_assign rfl (by kernel_rfl)) (by kernel_rfl) rfl rfl ?_
          refine W.sch_end (l' := [.agg #[.int .i64 m, .slice A n c], .slice A2 n2 c2, .pointer (some ⟨b2, 0, none⟩), undef, .bool false, .int .i64 ((K : Nat) : Int), .pointer (some ⟨b34, 0, none⟩), .int .i64 (findL ps x24.pipe), (U0 8), (U18 9), (U18 10), (U18 11), (U18 12), (U18 13), (U18 14), (U18 15), .bool false, (U22 17), (U22 18), (U22 19), .bool true, (U0 21), (U0 22), (U46 23), (U46 24), (U46 25), (U46 26), (U52 27), (U52 28), (U52 29), (U52 30), (U228 31), (U228 32), (U228 33), (U228 34), (U228 35), undef, undef, undef, undef, undef, undef, undef, undef, undef, undef, undef, undef, undef, (U228 49), (U228 50), undef, undef, (U228 53), (U228 54), undef, undef, undef, undef, undef, undef, undef, undef, undef, undef, undef, undef, undef, undef, undef, undef, undef, undef, undef, undef, .bool true, (U0 76), (U0 77), (U0 78), (U0 79), (U0 80), (U0 81), (U0 82), (U0 83), (U0 84), (U0 85), (U0 86), (U0 87), (U0 88), (U0 89), (U0 90), (U0 91), (U0 92), (U0 93), (U0 94), (U0 95), (U0 96), (U0 97), (U0 98)]) (by kernel_rfl) ?_
          refine h48 _ _ ?_
          refine wp_ret ?_
          try simp only [Exit.then, Exit.inBlock]
          refine ret1 (v := .bool false) rfl (by kernel_rfl) ?_
          have e8 : okV ps vs (K) = false := Bool.eq_false_iff.2 (fun h9 => by
            have h8 := (okV_iff hx25).1 h9
            obtain ⟨⟨hA, hB⟩, hC, hD⟩ := h8
            obtain ⟨hC0, p9, hp9, hC1⟩ := endAt_pos hC
            first | omega | (rw [inB_iff.2 hA] at q59; cases q59))
          exact ⟨ret_bool (goodV_bad (k := K) (by omega) e8).symm, c229⟩
      · refine W.sq (v := .bool false) rfl (r_lss (m := ((K : Nat) : Int)) (n := ((n2 : Nat) : Int)) rfl (by kernel_rfl) (by kernel_rfl) (decide_eq_false q21)) (by kernel_rfl) rfl rfl ?_
        refine W.sch_endU (fun U230 => [.agg #[.int .i64 m, .slice A n c], .slice A2 n2 c2, .pointer (some ⟨b2, 0, none⟩), undef, .bool false, .int .i64 ((K : Nat) : Int), (U0 6), (U0 7), (U0 8), (U18 9), (U18 10), (U18 11), (U18 12), (U18 13), (U18 14), (U18 15), .bool false, U230 17, U230 18, U230 19, .bool false, (U0 21), (U0 22), (U0 23), (U0 24), (U0 25), (U0 26), (U0 27), (U0 28), (U0 29), (U0 30), (U0 31), (U0 32), (U0 33), (U0 34), (U0 35), (U0 36), (U0 37), (U0 38), (U0 39), (U0 40), (U0 41), (U0 42), (U0 43), (U0 44), (U0 45), (U0 46), (U0 47), (U0 48), (U0 49), (U0 50), (U0 51), (U0 52), (U0 53), (U0 54), (U0 55), (U0 56), (U0 57), (U0 58), (U0 59), (U0 60), (U0 61), (U0 62), (U0 63), (U0 64), (U0 65), (U0 66), (U0 67), (U0 68), (U0 69), (U0 70), (U0 71), (U0 72), (U0 73), (U0 74), (U0 75), (U0 76), (U0 77), (U0 78), (U0 79), (U0 80), (U0 81), (U0 82), (U0 83), (U0 84), (U0 85), (U0 86), (U0 87), (U0 88), (U0 89), (U0 90), (U0 91), (U0 92), (U0 93), (U0 94), (U0 95), (U0 96), (U0 97), (U0 98)]) (by kernel_rfl) (fun U230 => ?_)
        refine h9 _ _ ?_
        refine wp_cond_false (by kernel_rfl) ?_
        refine wp_exit ?_
        refine h5 _ _ ?_
        refine wp_seq_k (fun K49 h49 => ?_)
        refine W.region_quiet [(0, false)] (by kernel_rfl) ?_
        refine W.sq (v := .bool true) rfl (r_assign rfl (by kernel_rfl)) (by kernel_rfl) rfl rfl ?_
        refine W.sch_end (l' := [.agg #[.int .i64 m, .slice A n c], .slice A2 n2 c2, .pointer (some ⟨b2, 0, none⟩), undef, .bool true, .int .i64 ((K : Nat) : Int), (U0 6), (U0 7), (U0 8), (U18 9), (U18 10), (U18 11), (U18 12), (U18 13), (U18 14), (U18 15), .bool false, (U230 17), (U230 18), (U230 19), .bool false, (U0 21), (U0 22), (U0 23), (U0 24), (U0 25), (U0 26), (U0 27), (U0 28), (U0 29), (U0 30), (U0 31), (U0 32), (U0 33), (U0 34), (U0 35), (U0 36), (U0 37), (U0 38), (U0 39), (U0 40), (U0 41), (U0 42), (U0 43), (U0 44), (U0 45), (U0 46), (U0 47), (U0 48), (U0 49), (U0 50), (U0 51), (U0 52), (U0 53), (U0 54), (U0 55), (U0 56), (U0 57), (U0 58), (U0 59), (U0 60), (U0 61), (U0 62), (U0 63), (U0 64), (U0 65), (U0 66), (U0 67), (U0 68), (U0 69), (U0 70), (U0 71), (U0 72), (U0 73), (U0 74), (U0 75), (U0 76), (U0 77), (U0 78), (U0 79), (U0 80), (U0 81), (U0 82), (U0 83), (U0 84), (U0 85), (U0 86), (U0 87), (U0 88), (U0 89), (U0 90), (U0 91), (U0 92), (U0 93), (U0 94), (U0 95), (U0 96), (U0 97), (U0 98)]) (by kernel_rfl) ?_
        refine h49 _ _ ?_
        refine wp_ret ?_
        try simp only [Exit.then]
        refine ret1 (v := .bool true) rfl (by kernel_rfl) ?_
        exact ⟨ret_bool (goodV_fin q14 (by omega) (by rw [show vs.length = K by omega]; exact hok)).symm, c20⟩
  · rw [q14]
    refine W.sq (v := .bool true) rfl (r_not (b := false) rfl (by kernel_rfl) rfl) (by kernel_rfl) rfl rfl ?_
    refine W.sq (v := .bool true) rfl (r_move rfl (by kernel_rfl)) (by kernel_rfl) rfl rfl ?_
    refine W.sk s13 rfl (by kernel_rfl) rfl rfl ?_
    refine W.sk s13 rfl (by kernel_rfl) rfl rfl ?_
    refine W.sk s13 rfl (by kernel_rfl) rfl rfl ?_
    refine W.sq (v := .bool true) rfl (r_pick (b := true) rfl (by kernel_rfl) (by kernel_rfl)) (by kernel_rfl) rfl rfl ?_
    refine W.sch_endU (fun U231 => [.agg #[.int .i64 m, .slice A n c], .slice A2 n2 c2, .pointer (some ⟨b2, 0, none⟩), undef, .bool false, undef, undef, undef, undef, U231 9, U231 10, U231 11, U231 12, undef, undef, undef, .bool true, undef, undef, undef, undef, undef, undef, undef, undef, undef, undef, undef, undef, undef, undef, undef, undef, undef, undef, undef, undef, undef, undef, undef, undef, undef, undef, undef, undef, undef, undef, undef, undef, undef, undef, undef, undef, undef, undef, undef, undef, undef, undef, undef, undef, undef, undef, undef, undef, undef, undef, undef, undef, undef, undef, undef, undef, undef, undef, undef, undef, undef, undef, undef, undef, undef, undef, undef, undef, undef, undef, undef, undef, undef, undef, undef, undef, undef, undef, undef, undef, undef, undef]) (by kernel_rfl) (fun U231 => ?_)
    have x6 := SG.blk s13 x6 (by simp)
    have c232 := (SG.belowR c9 s13 (fun kq e => by cases e))
    refine h3 _ _ ?_
    refine wp_cond_true (by kernel_rfl) ?_
    refine wp_seq_k (fun K50 h50 => ?_)
    refine W.region_quiet [(0, false)] (by kernel_rfl) ?_
    refine W.sq (v := .bool false) rfl (r_assign rfl (by kernel_rfl)) (by kernel_rfl) rfl rfl ?_
    refine W.sch_end (l' := [.agg #[.int .i64 m, .slice A n c], .slice A2 n2 c2, .pointer (some ⟨b2, 0, none⟩), undef, .bool false, undef, undef, undef, undef, (U231 9), (U231 10), (U231 11), (U231 12), undef, undef, undef, .bool true, undef, undef, undef, undef, undef, undef, undef, undef, undef, undef, undef, undef, undef, undef, undef, undef, undef, undef, undef, undef, undef, undef, undef, undef, undef, undef, undef, undef, undef, undef, undef, undef, undef, undef, undef, undef, undef, undef, undef, undef, undef, undef, undef, undef, undef, undef, undef, undef, undef, undef, undef, undef, undef, undef, undef, undef, undef, undef, undef, undef, undef, undef, undef, undef, undef, undef, undef, undef, undef, undef, undef, undef, undef, undef, undef, undef, undef, undef, undef, undef, undef, undef]) (by kernel_rfl) ?_
    refine h50 _ _ ?_
    refine wp_ret ?_
    try simp only [Exit.then]
    refine ret1 (v := .bool false) rfl (by kernel_rfl) ?_
    exact ⟨ret_bool (goodV_out (.inl q14)).symm, c232⟩

end Go.Proofs.Ytnfmdkbelbppdaa
