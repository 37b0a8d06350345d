/- Valid valves: the program's test. -/
import Derived.Test.YtnfmdkbelbppdaaValL
namespace Go.Proofs.Ytnfmdkbelbppdaa
open Go.RowKit
set_option linter.unusedVariables false
set_option linter.unusedSimpArgs false

theorem flatV_take {vs : List Vv} : ∀ k, (valvesV vs).take (k * 4) = valvesV (vs.take k) := by
  intro k
  induction vs generalizing k with
  | nil => simp [valvesV]
  | cons p ps ih =>
    cases k with
    | zero => simp [valvesV]
    | succ k => simp only [valvesV, List.flatMap_cons, List.take_succ_cons] at ih ⊢; rw [show (k + 1) * 4 = k * 4 + 4 by omega]; simp [Vv.vals, ih]
theorem Rd.toV {w : World} {A : Option Addr} {n k : Nat} {vs : List Vv} (h : Rd w 4 A n (valvesV vs)) (hk : k ≤ n) : Rd w 4 A k (valvesV (vs.take k)) := by
  have := h.to hk; rwa [flatV_take] at this
theorem other_zero {p : Pp} {u : Int} (h1 : 1 ≤ p.fr) (h2 : 1 ≤ p.to) : otherOf p u = 0 ↔ ¬ (p.fr = u ∨ p.to = u) := by
  rw [← other_pos h1 h2]
  unfold otherOf
  split
  · omega
  · split <;> omega

set_option maxRecDepth 100000 in
set_option maxHeartbeats 1000000 in
theorem IsValidValves_any (m : Int) (A : Option Addr) (n c : Nat) (ps : List Pp) (A2 : Option Addr) (n2 c2 : Nat) (vs : List Vv) (w : World) (ha : Rd w 4 A n (pipesV ps)) (hb : Rd w 4 A2 n2 (valvesV vs)) (hn : n ≤ 1048576) (hn2 : n2 ≤ 1048576) (hfm2 : Fm A2 n2 c2) :
    Calls Try.prog 79 #[.agg #[.int .i64 m, .slice A n c], .slice A2 n2 c2] w fun e w' => e = .returned (.bool (goodV m ps vs)) ∧ Below w.heap.size w w' := by
  have hl := rd_pipes_len ha
  have hl2 := rd_valves_len hb
  go_enter Try.func79, Try.ntmps79
  refine wp_seq_k (fun K1 h1 => ?_)
  refine W.region_plain (row := none) [(0, true), (1, false)] (by kernel_rfl) ?_
  have s1 := SG.self w none
  refine W.sn (fun b => .pointer (some ⟨b, 0, none⟩)) #[.int .i64 m, .slice A n c] 32 s1 rfl (by kernel_rfl) rfl (fun _ => by kernel_rfl) (fun b2 w3 hb4 k5 x6 s7 => ?_)
  have lo8 : w.heap.size ≤ b2 := by have := ((SG.belowR (Below.refl _ _) s1 (fun kq e => by cases e))).size; omega
  refine W.sq (v := .bool false) rfl (r_assign rfl (by kernel_rfl)) (by kernel_rfl) rfl rfl ?_
  refine W.sch_end (l' := [.agg #[.int .i64 m, .slice A n c], .slice A2 n2 c2, .pointer (some ⟨b2, 0, none⟩), undef, .bool false, undef, undef, undef, undef, undef, undef, undef, undef, undef, undef, undef, undef, undef, undef, undef, undef, undef, undef, undef, undef, undef, undef, undef, undef, undef, undef, undef, undef, undef, undef, undef, undef, undef, undef, undef, undef, undef, undef, undef, undef, undef, undef, undef, undef, undef, undef, undef, undef, undef, undef, undef, undef, undef, undef, undef, undef, undef, undef, undef, undef, undef, undef, undef, undef, undef, undef, undef]) (by kernel_rfl) ?_
  have c9 := (SG.belowR (Below.refl _ _) s7 (fun kq e => by cases e))
  refine h1 _ _ ?_
  refine wp_seq_k (fun K2 h2 => ?_)
  refine wp_seq_k (fun K3 h3 => ?_)
  refine W.region_plain (row := none) [(0, false), (1, true), (2, false), (3, false), (4, false), (5, false), (6, false), (7, false)] (by kernel_rfl) ?_
  have s10 := SG.self w3 none
  refine W.sq (v := .agg #[.int .i64 m, .slice A n c]) rfl (r_load2 rfl (by kernel_rfl) (by kernel_rfl) (by kernel_rfl) (sgS (blk_cell (j := 0) x6 (by kernel_rfl)) (by simp)) (sgS (blk_cell (j := 1) x6 (by kernel_rfl)) (by simp))) (by kernel_rfl) rfl rfl ?_
  refine W.sc (vs := [.agg #[.int .i64 m, .slice A n c]]) rfl rfl (by kernel_rfl) (by kernel_rfl) (by kernel_rfl) rfl (IsValid_any m A n c ps _ (Rd.kept ha (SG.belowR c9 s10 (fun kq e => by cases e))) (by omega)) ?_
  rintro e w12 ⟨rfl, b11⟩
  have s13 := SG.of_below s10 b11
  refine ⟨_, rfl, s13, ?_⟩
  rcases Bool.eq_false_or_eq_true (goodN m ps) with q14 | q14
  · rw [q14]
    refine W.sq (v := .bool false) rfl (r_not (b := true) rfl (by kernel_rfl) rfl) (by kernel_rfl) rfl rfl ?_
    refine W.sq (v := .bool false) rfl (r_move rfl (by kernel_rfl)) (by kernel_rfl) rfl rfl ?_
    refine W.sq (v := .slice A2 n2 c2) rfl (r_move rfl (by kernel_rfl)) (by kernel_rfl) rfl rfl ?_
    refine W.sq (v := .int .i64 ((n2 : Nat) : Int)) rfl (r_len (A := A2) (n := n2) (c := c2) rfl (by kernel_rfl) (by kernel_rfl)) (by kernel_rfl) rfl rfl ?_
    by_cases q15 : (((n2 : Nat) : Int) : Int) > (10 : Int)
    · refine W.sq (v := .bool true) rfl (r_gtr (m := ((n2 : Nat) : Int)) (n := 10) rfl (by kernel_rfl) (by kernel_rfl) (decide_eq_true q15)) (by kernel_rfl) rfl rfl ?_
      refine W.sq (v := .bool true) rfl (r_pick (b := false) rfl (by kernel_rfl) (by kernel_rfl)) (by kernel_rfl) rfl rfl ?_
      refine W.sch_endU (fun U16 => [.agg #[.int .i64 m, .slice A n c], .slice A2 n2 c2, .pointer (some ⟨b2, 0, none⟩), undef, .bool false, undef, undef, undef, U16 8, U16 9, U16 10, U16 11, U16 12, U16 13, U16 14, .bool true, undef, undef, undef, undef, undef, undef, undef, undef, undef, undef, undef, undef, undef, undef, undef, undef, undef, undef, undef, undef, undef, undef, undef, undef, undef, undef, undef, undef, undef, undef, undef, undef, undef, undef, undef, undef, undef, undef, undef, undef, undef, undef, undef, undef, undef, undef, undef, undef, undef, undef, undef, undef, undef, undef, undef, undef]) (by kernel_rfl) (fun U16 => ?_)
      have x6 := SG.blk s13 x6 (by simp)
      have c17 := (SG.belowR c9 s13 (fun kq e => by cases e))
      refine h3 _ _ ?_
      refine wp_cond_true (by kernel_rfl) ?_
      refine wp_seq_k (fun K4 h4 => ?_)
      refine W.region_quiet [(0, false)] (by kernel_rfl) ?_
      refine W.sq (v := .bool false) rfl (r_assign rfl (by kernel_rfl)) (by kernel_rfl) rfl rfl ?_
      refine W.sch_end (l' := [.agg #[.int .i64 m, .slice A n c], .slice A2 n2 c2, .pointer (some ⟨b2, 0, none⟩), undef, .bool false, undef, undef, undef, (U16 8), (U16 9), (U16 10), (U16 11), (U16 12), (U16 13), (U16 14), .bool true, undef, undef, undef, undef, undef, undef, undef, undef, undef, undef, undef, undef, undef, undef, undef, undef, undef, undef, undef, undef, undef, undef, undef, undef, undef, undef, undef, undef, undef, undef, undef, undef, undef, undef, undef, undef, undef, undef, undef, undef, undef, undef, undef, undef, undef, undef, undef, undef, undef, undef, undef, undef, undef, undef, undef, undef]) (by kernel_rfl) ?_
      refine h4 _ _ ?_
      refine wp_ret ?_
      try simp only [Exit.then]
      refine ret1 (v := .bool false) rfl (by kernel_rfl) ?_
      exact ⟨ret_bool (goodV_out (.inr (by omega))).symm, c17⟩
    · refine W.sq (v := .bool false) rfl (r_gtr (m := ((n2 : Nat) : Int)) (n := 10) rfl (by kernel_rfl) (by kernel_rfl) (decide_eq_false q15)) (by kernel_rfl) rfl rfl ?_
      refine W.sq (v := .bool false) rfl (r_pick (b := false) rfl (by kernel_rfl) (by kernel_rfl)) (by kernel_rfl) rfl rfl ?_
      refine W.sch_endU (fun U18 => [.agg #[.int .i64 m, .slice A n c], .slice A2 n2 c2, .pointer (some ⟨b2, 0, none⟩), undef, .bool false, undef, undef, undef, U18 8, U18 9, U18 10, U18 11, U18 12, U18 13, U18 14, .bool false, undef, undef, undef, undef, undef, undef, undef, undef, undef, undef, undef, undef, undef, undef, undef, undef, undef, undef, undef, undef, undef, undef, undef, undef, undef, undef, undef, undef, undef, undef, undef, undef, undef, undef, undef, undef, undef, undef, undef, undef, undef, undef, undef, undef, undef, undef, undef, undef, undef, undef, undef, undef, undef, undef, undef, undef]) (by kernel_rfl) (fun U18 => ?_)
      have x6 := SG.blk s13 x6 (by simp)
      have c19 := (SG.belowR c9 s13 (fun kq e => by cases e))
      refine h3 _ _ ?_
      refine wp_cond_false (by kernel_rfl) ?_
      refine wp_skip ?_
      refine h2 _ _ ?_
      refine wp_seq_k (fun K5 h5 => ?_)
      refine wp_seq_k (fun K6 h6 => ?_)
      refine W.region_quiet [(0, false), (1, false), (2, false)] (by kernel_rfl) ?_
      refine W.sq (v := .slice A2 n2 c2) rfl (r_move rfl (by kernel_rfl)) (by kernel_rfl) rfl rfl ?_
      refine W.sq (v := .int .i64 ((n2 : Nat) : Int)) rfl (r_len (A := A2) (n := n2) (c := c2) rfl (by kernel_rfl) (by kernel_rfl)) (by kernel_rfl) rfl rfl ?_
      refine W.sq (v := .int .i64 0) rfl (r_move rfl (by kernel_rfl)) (by kernel_rfl) rfl rfl ?_
      refine W.sch_end (l' := [.agg #[.int .i64 m, .slice A n c], .slice A2 n2 c2, .pointer (some ⟨b2, 0, none⟩), undef, .bool false, undef, undef, undef, (U18 8), (U18 9), (U18 10), (U18 11), (U18 12), (U18 13), (U18 14), .bool false, .slice A2 n2 c2, .int .i64 ((n2 : Nat) : Int), .int .i64 0, undef, undef, undef, undef, undef, undef, undef, undef, undef, undef, undef, undef, undef, undef, undef, undef, undef, undef, undef, undef, undef, undef, undef, undef, undef, undef, undef, undef, undef, undef, undef, undef, undef, undef, undef, undef, undef, undef, undef, undef, undef, undef, undef, undef, undef, undef, undef, undef, undef, undef, undef, undef, undef]) (by kernel_rfl) ?_
      refine h6 _ _ ?_
      refine wp_block ?_
      refine loopK (fun am0 aa0 wl0 => ∃ (K : Nat) (U0 : Nat → Value), aa0 = ⟨[.agg #[.int .i64 m, .slice A n c], .slice A2 n2 c2, .pointer (some ⟨b2, 0, none⟩), undef, .bool false, U0 5, U0 6, U0 7, (U18 8), (U18 9), (U18 10), (U18 11), (U18 12), (U18 13), (U18 14), .bool false, .slice A2 n2 c2, .int .i64 ((n2 : Nat) : Int), .int .i64 ((K : Nat) : Int), U0 19, U0 20, U0 21, U0 22, U0 23, U0 24, U0 25, U0 26, U0 27, U0 28, U0 29, U0 30, U0 31, U0 32, U0 33, U0 34, U0 35, U0 36, U0 37, U0 38, U0 39, U0 40, U0 41, U0 42, U0 43, U0 44, U0 45, U0 46, U0 47, U0 48, U0 49, U0 50, U0 51, U0 52, U0 53, U0 54, U0 55, U0 56, U0 57, U0 58, U0 59, U0 60, U0 61, U0 62, U0 63, U0 64, U0 65, U0 66, U0 67, U0 68, U0 69, U0 70, U0 71].toArray, []⟩ ∧ (am0 = n2 - K) ∧ (K ≤ n2) ∧ (okVTo ps vs K = true) ∧ (wl0.heap[b2]? = some (.cells #[.int .i64 m, .slice A n c] 32 (0, 0))) ∧ (Below w.heap.size w wl0)) (n2 - 0) ?_ ?_
      · exact ⟨0, (fun iU9 => [.agg #[.int .i64 m, .slice A n c], .slice A2 n2 c2, .pointer (some ⟨b2, 0, none⟩), undef, .bool false, undef, undef, undef, (U18 8), (U18 9), (U18 10), (U18 11), (U18 12), (U18 13), (U18 14), .bool false, .slice A2 n2 c2, .int .i64 ((n2 : Nat) : Int), .int .i64 0, undef, undef, undef, undef, undef, undef, undef, undef, undef, undef, undef, undef, undef, undef, undef, undef, undef, undef, undef, undef, undef, undef, undef, undef, undef, undef, undef, undef, undef, undef, undef, undef, undef, undef, undef, undef, undef, undef, undef, undef, undef, undef, undef, undef, undef, undef, undef, undef, undef, undef, undef, undef, undef].getD iU9 undef), (by kernel_rfl), rfl, (Nat.zero_le _), rfl, x6, c19⟩
      rintro am0 aa0 wl0 K7 h7 ⟨K, U0, rfl, rfl, hk, hok, x6, c20⟩
      refine wp_seq_k (fun K8 h8 => ?_)
      refine W.region_quiet [(0, false)] (by kernel_rfl) ?_
      by_cases q21 : (((K : Nat) : Int) : Int) < (((n2 : Nat) : Int) : Int)
      · refine W.sq (v := .bool true) rfl (r_lss (m := ((K : Nat) : Int)) (n := ((n2 : Nat) : Int)) rfl (by kernel_rfl) (by kernel_rfl) (decide_eq_true q21)) (by kernel_rfl) rfl rfl ?_
        refine W.sch_end (l' := [.agg #[.int .i64 m, .slice A n c], .slice A2 n2 c2, .pointer (some ⟨b2, 0, none⟩), undef, .bool false, (U0 5), (U0 6), (U0 7), (U18 8), (U18 9), (U18 10), (U18 11), (U18 12), (U18 13), (U18 14), .bool false, .slice A2 n2 c2, .int .i64 ((n2 : Nat) : Int), .int .i64 ((K : Nat) : Int), .bool true, (U0 20), (U0 21), (U0 22), (U0 23), (U0 24), (U0 25), (U0 26), (U0 27), (U0 28), (U0 29), (U0 30), (U0 31), (U0 32), (U0 33), (U0 34), (U0 35), (U0 36), (U0 37), (U0 38), (U0 39), (U0 40), (U0 41), (U0 42), (U0 43), (U0 44), (U0 45), (U0 46), (U0 47), (U0 48), (U0 49), (U0 50), (U0 51), (U0 52), (U0 53), (U0 54), (U0 55), (U0 56), (U0 57), (U0 58), (U0 59), (U0 60), (U0 61), (U0 62), (U0 63), (U0 64), (U0 65), (U0 66), (U0 67), (U0 68), (U0 69), (U0 70), (U0 71)]) (by kernel_rfl) ?_
        refine h8 _ _ ?_
        refine wp_seq_k (fun K9 h9 => ?_)
        refine wp_cond_true (by kernel_rfl) ?_
        refine wp_skip ?_
        refine h9 _ _ ?_
        refine wp_seq_k (fun K10 h10 => ?_)
        refine wp_block ?_
        refine wp_seq_k (fun K11 h11 => ?_)
        refine W.region_plain (row := none) [(0, false), (1, false), (2, false), (3, true), (4, false), (5, true)] (by kernel_rfl) ?_
        have s22 := SG.self wl0 none
        refine W.sq (v := .int .i64 ((K : Nat) : Int)) rfl (r_move rfl (by kernel_rfl)) (by kernel_rfl) rfl rfl ?_
        obtain ⟨x23, hx24⟩ := get_of (zs := vs) (k := K) (by have := hl2; omega)
        obtain ⟨b25, o26, hA27, hb28, hc29, hc30, hc31, hc32⟩ := Rd.elValve hb hx24
        refine W.sq (v := .pointer (some ⟨b25, o26 + K * 4, none⟩)) rfl (r_idx (n := n2) (c := c2) (k := K) rfl (by kernel_rfl) hA27 (by kernel_rfl) (by kernel_rfl) (by have := hl2; omega)) (by kernel_rfl) rfl rfl ?_
        refine W.sq (v := .agg #[.int .i64 x23.id, .int .i64 x23.pipe, .int .i64 x23.node, .bool x23.shut]) rfl (r_load4 rfl (by kernel_rfl) (by kernel_rfl) (by kernel_rfl) (sgS (later c20 hc29) (by simp)) (sgS (later c20 hc30) (by simp)) (sgS (later c20 hc31) (by simp)) (sgS (later c20 hc32) (by simp))) (by kernel_rfl) rfl rfl ?_
        refine W.sn (fun b => .pointer (some ⟨b, 0, none⟩)) #[.int .i64 0, .int .i64 0, .int .i64 0, .bool false] 60 s22 rfl (by kernel_rfl) rfl (fun _ => by kernel_rfl) (fun b33 w34 hb35 k36 x37 s38 => ?_)
        have lo39 : w.heap.size ≤ b33 := by have := ((SG.belowR c20 s22 (fun kq e => by cases e))).size; omega
        have ne40 : b2 ≠ b33 := by have := blk_lt x6; have := World.grownBy.size s22; omega
        refine W.sq (v := .int .i64 ((K : Nat) : Int)) rfl (r_assign rfl (by kernel_rfl)) (by kernel_rfl) rfl rfl ?_
        refine W.ss (v := .agg #[.int .i64 x23.id, .int .i64 x23.pipe, .int .i64 x23.node, .bool x23.shut]) (j := 0) (news := [.int .i64 x23.id, .int .i64 x23.pipe, .int .i64 x23.node, .bool x23.shut]) (cs' := #[.int .i64 x23.id, .int .i64 x23.pipe, .int .i64 x23.node, .bool x23.shut]) s38 rfl (by kernel_rfl) rfl rfl (by kernel_rfl) (by kernel_rfl) x37 (by kernel_rfl) (by kernel_rfl) (by simp) (by kernel_rfl) (by kernel_rfl) (.inr (by have := World.grownBy.size s22; have := hb35; omega)) (fun w41 g42 x43 s44 => ?_)
        refine W.sch_endU (fun U45 => [.agg #[.int .i64 m, .slice A n c], .slice A2 n2 c2, .pointer (some ⟨b2, 0, none⟩), undef, .bool false, .int .i64 ((K : Nat) : Int), .pointer (some ⟨b33, 0, none⟩), (U0 7), (U18 8), (U18 9), (U18 10), (U18 11), (U18 12), (U18 13), (U18 14), .bool false, .slice A2 n2 c2, .int .i64 ((n2 : Nat) : Int), .int .i64 ((K : Nat) : Int), .bool true, U45 20, U45 21, U45 22, (U0 23), (U0 24), (U0 25), (U0 26), (U0 27), (U0 28), (U0 29), (U0 30), (U0 31), (U0 32), (U0 33), (U0 34), (U0 35), (U0 36), (U0 37), (U0 38), (U0 39), (U0 40), (U0 41), (U0 42), (U0 43), (U0 44), (U0 45), (U0 46), (U0 47), (U0 48), (U0 49), (U0 50), (U0 51), (U0 52), (U0 53), (U0 54), (U0 55), (U0 56), (U0 57), (U0 58), (U0 59), (U0 60), (U0 61), (U0 62), (U0 63), (U0 64), (U0 65), (U0 66), (U0 67), (U0 68), (U0 69), (U0 70), (U0 71)]) (by kernel_rfl) (fun U45 => ?_)
        have x6 := SG.blk s44 x6 (by simp)
        have c46 := (SG.belowR c20 s44 (fun kq e => by cases e))
        refine h11 _ _ ?_
        refine wp_seq_k (fun K12 h12 => ?_)
        refine W.region_plain (row := none) [(0, false), (1, false), (2, false), (3, true), (4, false)] (by kernel_rfl) ?_
        have s47 := SG.self w41 none
        refine W.sq (v := .agg #[.int .i64 m, .slice A n c]) rfl (r_load2 rfl (by kernel_rfl) (by kernel_rfl) (by kernel_rfl) (sgS (blk_cell (j := 0) x6 (by kernel_rfl)) (by simp)) (sgS (blk_cell (j := 1) x6 (by kernel_rfl)) (by simp))) (by kernel_rfl) rfl rfl ?_
        refine W.sq (v := .pointer (some ⟨b33, 1, none⟩)) rfl (r_field (k := 1) rfl (by kernel_rfl) (by kernel_rfl)) (by kernel_rfl) rfl rfl ?_
        refine W.sq (v := .int .i64 x23.pipe) rfl (r_load rfl (by kernel_rfl) (by kernel_rfl) (sgS (blk_cell (j := 1) x43 (by kernel_rfl)) (by simp))) (by kernel_rfl) rfl rfl ?_
        refine W.sc (vs := [.agg #[.int .i64 m, .slice A n c], .int .i64 x23.pipe]) rfl rfl (by kernel_rfl) (by kernel_rfl) (by kernel_rfl) rfl (pipeIndex_any m A n c ps x23.pipe _ (Rd.kept ha (SG.belowR c46 s47 (fun kq e => by cases e))) (by omega)) ?_
        rintro e w49 ⟨rfl, b48⟩
        have s50 := SG.of_below s47 b48
        refine ⟨_, rfl, s50, ?_⟩
        refine W.sq (v := .int .i64 (findL ps x23.pipe)) rfl (r_assign rfl (by kernel_rfl)) (by kernel_rfl) rfl rfl ?_
        refine W.sch_endU (fun U51 => [.agg #[.int .i64 m, .slice A n c], .slice A2 n2 c2, .pointer (some ⟨b2, 0, none⟩), undef, .bool false, .int .i64 ((K : Nat) : Int), .pointer (some ⟨b33, 0, none⟩), .int .i64 (findL ps x23.pipe), (U18 8), (U18 9), (U18 10), (U18 11), (U18 12), (U18 13), (U18 14), .bool false, .slice A2 n2 c2, .int .i64 ((n2 : Nat) : Int), .int .i64 ((K : Nat) : Int), .bool true, (U45 20), (U45 21), (U45 22), U51 23, U51 24, U51 25, U51 26, (U0 27), (U0 28), (U0 29), (U0 30), (U0 31), (U0 32), (U0 33), (U0 34), (U0 35), (U0 36), (U0 37), (U0 38), (U0 39), (U0 40), (U0 41), (U0 42), (U0 43), (U0 44), (U0 45), (U0 46), (U0 47), (U0 48), (U0 49), (U0 50), (U0 51), (U0 52), (U0 53), (U0 54), (U0 55), (U0 56), (U0 57), (U0 58), (U0 59), (U0 60), (U0 61), (U0 62), (U0 63), (U0 64), (U0 65), (U0 66), (U0 67), (U0 68), (U0 69), (U0 70), (U0 71)]) (by kernel_rfl) (fun U51 => ?_)
        have x6 := SG.blk s50 x6 (by simp)
        have x43 := SG.blk s50 x43 (by simp)
        have c52 := (SG.belowR c46 s50 (fun kq e => by cases e))
        refine h12 _ _ ?_
        refine wp_seq_k (fun K13 h13 => ?_)
        refine wp_seq_k (fun K14 h14 => ?_)
        refine W.region_sch (row := none) (Sch.of [(0, false), (1, false), (2, true), (3, false), (4, false), (5, false), (6, false), (7, false), (8, false), (9, false), (10, false), (11, false), (12, false), (13, false), (14, false), (15, false), (16, false), (17, false), (18, false), (19, false), (20, false), (21, false), (22, false), (23, false), (24, false), (25, false), (26, false), (27, false), (28, false), (29, false), (30, false), (31, false), (32, false), (33, false), (34, false), (35, false), (36, true), (37, false), (38, false)]) (by kernel_rfl) (by kernel_rfl) (fun _ d _ _ _ h => by cases d <;> exact h) (by kernel_rfl) (fun w53 e54 s55 => ?_)
        refine W.sq (v := .pointer (some ⟨b33, 0, none⟩)) rfl (r_field0 rfl (by kernel_rfl) (by kernel_rfl)) (by kernel_rfl) rfl rfl ?_
        refine W.sq (v := .int .i64 x23.id) rfl (r_load rfl (by kernel_rfl) (by kernel_rfl) (sgS (blk_cell (j := 0) x43 (by kernel_rfl)) (by simp))) (by kernel_rfl) rfl rfl ?_
        refine W.sc (vs := [.int .i64 x23.id, .int .i64 1, .int .i64 99]) rfl rfl (by kernel_rfl) (by kernel_rfl) (by kernel_rfl) rfl (inside_any x23.id 1 99 _) ?_
        rintro e w' ⟨rfl, rfl⟩
        refine ⟨_, rfl, s55, ?_⟩
        rcases Bool.eq_false_or_eq_true (inB x23.id 1 99) with q58 | q58
        · rw [q58]
          refine W.sq (v := .bool false) rfl (r_not (b := true) rfl (by kernel_rfl) rfl) (by kernel_rfl) rfl rfl ?_
          refine W.sq (v := .bool false) rfl (r_move rfl (by kernel_rfl)) (by kernel_rfl) rfl rfl ?_
          refine W.sq (v := .int .i64 ((K : Nat) : Int)) rfl (r_move rfl (by kernel_rfl)) (by kernel_rfl) rfl rfl ?_
          by_cases q59 : (((K : Nat) : Int) : Int) > (0 : Int)
          · obtain ⟨k, rfl⟩ : ∃ k, K = k + 1 := ⟨K - 1, by omega⟩
            refine W.sq (v := .bool true) rfl (r_gtr (m := (((k + 1) : Nat) : Int)) (n := 0) rfl (by kernel_rfl) (by kernel_rfl) (decide_eq_true q59)) (by kernel_rfl) rfl rfl ?_
            refine W.sq (v := .bool true) rfl (r_move rfl (by kernel_rfl)) (by kernel_rfl) rfl rfl ?_
            refine W.sq (v := .slice A2 n2 c2) rfl (r_move rfl (by kernel_rfl)) (by kernel_rfl) rfl rfl ?_
            refine W.sq (v := .int .i64 (((k + 1) : Nat) : Int)) rfl (r_move rfl (by kernel_rfl)) (by kernel_rfl) rfl rfl ?_
            refine W.sq (v := .int .i64 ((k : Nat) : Int)) rfl (r_sub (m := (((k + 1) : Nat) : Int)) (n := 1) (z := ((k : Nat) : Int)) rfl (by kernel_rfl) (by kernel_rfl) (by omega) (by omega)) (by kernel_rfl) rfl rfl ?_
            obtain ⟨x60, hx61⟩ := get_of (zs := vs) (k := k) (by have := hl2; omega)
            obtain ⟨b62, o63, hA64, hb65, hc66, hc67, hc68, hc69⟩ := Rd.elValve hb hx61
            refine W.sq (v := .pointer (some ⟨b62, o63 + k * 4, none⟩)) rfl (r_idx (n := n2) (c := c2) (k := k) rfl (by kernel_rfl) hA64 (by kernel_rfl) (by kernel_rfl) (by have := hl2; omega)) (by kernel_rfl) rfl rfl ?_
            refine W.sq (v := .pointer (some ⟨b62, o63 + k * 4, none⟩)) rfl (r_field0 rfl (by kernel_rfl) (by kernel_rfl)) (by kernel_rfl) rfl rfl ?_
            refine W.sq (v := .int .i64 x60.id) rfl (r_load rfl (by kernel_rfl) (by kernel_rfl) (sgS (later c52 hc66) (by simp))) (by kernel_rfl) rfl rfl ?_
            refine W.sq (v := .pointer (some ⟨b33, 0, none⟩)) rfl (r_field0 rfl (by kernel_rfl) (by kernel_rfl)) (by kernel_rfl) rfl rfl ?_
            refine W.sq (v := .int .i64 x23.id) rfl (r_load rfl (by kernel_rfl) (by kernel_rfl) (sgS (blk_cell (j := 0) x43 (by kernel_rfl)) (by simp))) (by kernel_rfl) rfl rfl ?_
            by_cases q70 : (x60.id : Int) ≥ (x23.id : Int)
            · refine W.sq (v := .bool true) rfl (r_geq (m := x60.id) (n := x23.id) rfl (by kernel_rfl) (by kernel_rfl) (decide_eq_true q70)) (by kernel_rfl) rfl rfl ?_
              refine W.sq (v := .bool true) rfl (r_pick (b := true) rfl (by kernel_rfl) (by kernel_rfl)) (by kernel_rfl) rfl rfl ?_
              refine W.sq (v := .bool true) rfl (r_pick (b := false) rfl (by kernel_rfl) (by kernel_rfl)) (by kernel_rfl) rfl rfl ?_
              refine W.sq (v := .bool true) rfl (r_move rfl (by kernel_rfl)) (by kernel_rfl) rfl rfl ?_
              refine W.sk s55 rfl (by kernel_rfl) rfl rfl ?_
              refine W.sk s55 rfl (by kernel_rfl) rfl rfl ?_
              refine W.sq (v := .bool true) rfl (r_pick (b := true) rfl (by kernel_rfl) (by kernel_rfl)) (by kernel_rfl) rfl rfl ?_
              refine W.sq (v := .bool true) rfl (r_move rfl (by kernel_rfl)) (by kernel_rfl) rfl rfl ?_
              refine W.sk s55 rfl (by kernel_rfl) rfl rfl ?_
              refine W.sk s55 rfl (by kernel_rfl) rfl rfl ?_
              refine W.sk s55 rfl (by kernel_rfl) rfl rfl ?_
              refine W.sq (v := .bool true) rfl (r_pick (b := true) rfl (by kernel_rfl) (by kernel_rfl)) (by kernel_rfl) rfl rfl ?_
              refine W.sq (v := .bool true) rfl (r_move rfl (by kernel_rfl)) (by kernel_rfl) rfl rfl ?_
              refine W.sk s55 rfl (by kernel_rfl) rfl rfl ?_
              refine W.sk s55 rfl (by kernel_rfl) rfl rfl ?_
              refine W.sk s55 rfl (by kernel_rfl) rfl rfl ?_
              refine W.sk s55 rfl (by kernel_rfl) rfl rfl ?_
              refine W.sk s55 rfl (by kernel_rfl) rfl rfl ?_
              refine W.sk s55 rfl (by kernel_rfl) rfl rfl ?_
              refine W.sk s55 rfl (by kernel_rfl) rfl rfl ?_
              refine W.sk s55 rfl (by kernel_rfl) rfl rfl ?_
              refine W.sk s55 rfl (by kernel_rfl) rfl rfl ?_
              refine W.sq (v := .bool true) rfl (r_pick (b := true) rfl (by kernel_rfl) (by kernel_rfl)) (by kernel_rfl) rfl rfl ?_
              refine W.sch_endU (fun U71 => [.agg #[.int .i64 m, .slice A n c], .slice A2 n2 c2, .pointer (some ⟨b2, 0, none⟩), undef, .bool false, .int .i64 (((k + 1) : Nat) : Int), .pointer (some ⟨b33, 0, none⟩), .int .i64 (findL ps x23.pipe), (U18 8), (U18 9), (U18 10), (U18 11), (U18 12), (U18 13), (U18 14), .bool false, .slice A2 n2 c2, .int .i64 ((n2 : Nat) : Int), .int .i64 (((k + 1) : Nat) : Int), .bool true, (U45 20), (U45 21), (U45 22), (U51 23), (U51 24), (U51 25), (U51 26), U71 27, U71 28, U71 29, U71 30, U71 31, U71 32, U71 33, U71 34, U71 35, U71 36, U71 37, U71 38, U71 39, U71 40, U71 41, U71 42, U71 43, U71 44, U71 45, U71 46, undef, undef, U71 49, U71 50, undef, undef, undef, U71 54, U71 55, undef, undef, undef, undef, undef, undef, undef, undef, undef, .bool true, (U0 66), (U0 67), (U0 68), (U0 69), (U0 70), (U0 71)]) (by kernel_rfl) (fun U71 => ?_)
              have x6 := SG.blk s55 x6 (by simp)
              have x43 := SG.blk s55 x43 (by simp)
              have c72 := (SG.belowR c52 s55 (fun kq e => by cases e))
              refine h14 _ _ ?_
              refine wp_cond_true (by kernel_rfl) ?_
              refine wp_seq_k (fun K15 h15 => ?_)
              refine W.region_quiet [(0, false)] (by kernel_rfl) ?_
              refine W.sq (v := .bool false) rfl (r_assign rfl (by kernel_rfl)) (by kernel_rfl) rfl rfl ?_
              refine W.sch_end (l' := [.agg #[.int .i64 m, .slice A n c], .slice A2 n2 c2, .pointer (some ⟨b2, 0, none⟩), undef, .bool false, .int .i64 (((k + 1) : Nat) : Int), .pointer (some ⟨b33, 0, none⟩), .int .i64 (findL ps x23.pipe), (U18 8), (U18 9), (U18 10), (U18 11), (U18 12), (U18 13), (U18 14), .bool false, .slice A2 n2 c2, .int .i64 ((n2 : Nat) : Int), .int .i64 (((k + 1) : Nat) : Int), .bool true, (U45 20), (U45 21), (U45 22), (U51 23), (U51 24), (U51 25), (U51 26), (U71 27), (U71 28), (U71 29), (U71 30), (U71 31), (U71 32), (U71 33), (U71 34), (U71 35), (U71 36), (U71 37), (U71 38), (U71 39), (U71 40), (U71 41), (U71 42), (U71 43), (U71 44), (U71 45), (U71 46), undef, undef, (U71 49), (U71 50), undef, undef, undef, (U71 54), (U71 55), undef, undef, undef, undef, undef, undef, undef, undef, undef, .bool true, (U0 66), (U0 67), (U0 68), (U0 69), (U0 70), (U0 71)]) (by kernel_rfl) ?_
              refine h15 _ _ ?_
              refine wp_ret ?_
              try simp only [Exit.then, Exit.inBlock]
              refine ret1 (v := .bool false) rfl (by kernel_rfl) ?_
              have e8 : okV ps vs (k + 1) = false := Bool.eq_false_iff.2 (fun h9 => by
                have h8 := (okV_iff hx24).1 h9
                obtain ⟨⟨hA, hB⟩, hC, hD⟩ := h8
                obtain ⟨hC0, p9, hp9, hC1⟩ := endAt_pos hC
                have hg9 := (good_of q14).at hp9
                have h7 := (other_zero (u := x23.node) hg9.2.1.1 hg9.2.2.1.1)
                have hB' := of_decide_eq_true ((above_next hx61).symm.trans hB)
                first | omega | (rw [inB_iff.2 hA] at q58; cases q58))
              exact ⟨ret_bool (goodV_bad (k := k + 1) (by omega) e8).symm, c72⟩
            · refine W.sq (v := .bool false) rfl (r_geq (m := x60.id) (n := x23.id) rfl (by kernel_rfl) (by kernel_rfl) (decide_eq_false q70)) (by kernel_rfl) rfl rfl ?_
              refine W.sq (v := .bool false) rfl (r_pick (b := true) rfl (by kernel_rfl) (by kernel_rfl)) (by kernel_rfl) rfl rfl ?_
              refine W.sq (v := .bool false) rfl (r_pick (b := false) rfl (by kernel_rfl) (by kernel_rfl)) (by kernel_rfl) rfl rfl ?_
              refine W.sq (v := .bool false) rfl (r_move rfl (by kernel_rfl)) (by kernel_rfl) rfl rfl ?_
              refine W.sq (v := .int .i64 (findL ps x23.pipe)) rfl (r_move rfl (by kernel_rfl)) (by kernel_rfl) rfl rfl ?_
              by_cases q73 : (findL ps x23.pipe : Int) < (0 : Int)
              · refine W.sq (v := .bool true) rfl (r_lss (m := findL ps x23.pipe) (n := 0) rfl (by kernel_rfl) (by kernel_rfl) (decide_eq_true q73)) (by kernel_rfl) rfl rfl ?_
                refine W.sq (v := .bool true) rfl (r_pick (b := false) rfl (by kernel_rfl) (by kernel_rfl)) (by kernel_rfl) rfl rfl ?_
                refine W.sq (v := .bool true) rfl (r_move rfl (by kernel_rfl)) (by kernel_rfl) rfl rfl ?_
                refine W.sk s55 rfl (by kernel_rfl) rfl rfl ?_
                refine W.sk s55 rfl (by kernel_rfl) rfl rfl ?_
                refine W.sk s55 rfl (by kernel_rfl) rfl rfl ?_
                refine W.sq (v := .bool true) rfl (r_pick (b := true) rfl (by kernel_rfl) (by kernel_rfl)) (by kernel_rfl) rfl rfl ?_
                refine W.sq (v := .bool true) rfl (r_move rfl (by kernel_rfl)) (by kernel_rfl) rfl rfl ?_
                refine W.sk s55 rfl (by kernel_rfl) rfl rfl ?_
                refine W.sk s55 rfl (by kernel_rfl) rfl rfl ?_
                refine W.sk s55 rfl (by kernel_rfl) rfl rfl ?_
                refine W.sk s55 rfl (by kernel_rfl) rfl rfl ?_
                refine W.sk s55 rfl (by kernel_rfl) rfl rfl ?_
                refine W.sk s55 rfl (by kernel_rfl) rfl rfl ?_
                refine W.sk s55 rfl (by kernel_rfl) rfl rfl ?_
                refine W.sk s55 rfl (by kernel_rfl) rfl rfl ?_
                refine W.sk s55 rfl (by kernel_rfl) rfl rfl ?_
                refine W.sq (v := .bool true) rfl (r_pick (b := true) rfl (by kernel_rfl) (by kernel_rfl)) (by kernel_rfl) rfl rfl ?_
                refine W.sch_endU (fun U74 => [.agg #[.int .i64 m, .slice A n c], .slice A2 n2 c2, .pointer (some ⟨b2, 0, none⟩), undef, .bool false, .int .i64 (((k + 1) : Nat) : Int), .pointer (some ⟨b33, 0, none⟩), .int .i64 (findL ps x23.pipe), (U18 8), (U18 9), (U18 10), (U18 11), (U18 12), (U18 13), (U18 14), .bool false, .slice A2 n2 c2, .int .i64 ((n2 : Nat) : Int), .int .i64 (((k + 1) : Nat) : Int), .bool true, (U45 20), (U45 21), (U45 22), (U51 23), (U51 24), (U51 25), (U51 26), U74 27, U74 28, U74 29, U74 30, U74 31, U74 32, U74 33, U74 34, U74 35, U74 36, U74 37, U74 38, U74 39, U74 40, U74 41, U74 42, U74 43, U74 44, U74 45, U74 46, U74 47, U74 48, U74 49, U74 50, undef, undef, undef, U74 54, U74 55, undef, undef, undef, undef, undef, undef, undef, undef, undef, .bool true, (U0 66), (U0 67), (U0 68), (U0 69), (U0 70), (U0 71)]) (by kernel_rfl) (fun U74 => ?_)
                have x6 := SG.blk s55 x6 (by simp)
                have x43 := SG.blk s55 x43 (by simp)
                have c75 := (SG.belowR c52 s55 (fun kq e => by cases e))
                refine h14 _ _ ?_
                refine wp_cond_true (by kernel_rfl) ?_
                refine wp_seq_k (fun K16 h16 => ?_)
                refine W.region_quiet [(0, false)] (by kernel_rfl) ?_
                refine W.sq (v := .bool false) rfl (r_assign rfl (by kernel_rfl)) (by kernel_rfl) rfl rfl ?_
                refine W.sch_end (l' := [.agg #[.int .i64 m, .slice A n c], .slice A2 n2 c2, .pointer (some ⟨b2, 0, none⟩), undef, .bool false, .int .i64 (((k + 1) : Nat) : Int), .pointer (some ⟨b33, 0, none⟩), .int .i64 (findL ps x23.pipe), (U18 8), (U18 9), (U18 10), (U18 11), (U18 12), (U18 13), (U18 14), .bool false, .slice A2 n2 c2, .int .i64 ((n2 : Nat) : Int), .int .i64 (((k + 1) : Nat) : Int), .bool true, (U45 20), (U45 21), (U45 22), (U51 23), (U51 24), (U51 25), (U51 26), (U74 27), (U74 28), (U74 29), (U74 30), (U74 31), (U74 32), (U74 33), (U74 34), (U74 35), (U74 36), (U74 37), (U74 38), (U74 39), (U74 40), (U74 41), (U74 42), (U74 43), (U74 44), (U74 45), (U74 46), (U74 47), (U74 48), (U74 49), (U74 50), undef, undef, undef, (U74 54), (U74 55), undef, undef, undef, undef, undef, undef, undef, undef, undef, .bool true, (U0 66), (U0 67), (U0 68), (U0 69), (U0 70), (U0 71)]) (by kernel_rfl) ?_
                refine h16 _ _ ?_
                refine wp_ret ?_
                try simp only [Exit.then, Exit.inBlock]
                refine ret1 (v := .bool false) rfl (by kernel_rfl) ?_
                have e8 : okV ps vs (k + 1) = false := Bool.eq_false_iff.2 (fun h9 => by
                  have h8 := (okV_iff hx24).1 h9
                  obtain ⟨⟨hA, hB⟩, hC, hD⟩ := h8
                  obtain ⟨hC0, p9, hp9, hC1⟩ := endAt_pos hC
                  have hg9 := (good_of q14).at hp9
                  have h7 := (other_zero (u := x23.node) hg9.2.1.1 hg9.2.2.1.1)
                  have hB' := of_decide_eq_true ((above_next hx61).symm.trans hB)
                  first | omega | (rw [inB_iff.2 hA] at q58; cases q58))
                exact ⟨ret_bool (goodV_bad (k := k + 1) (by omega) e8).symm, c75⟩
              · refine W.sq (v := .bool false) rfl (r_lss (m := findL ps x23.pipe) (n := 0) rfl (by kernel_rfl) (by kernel_rfl) (decide_eq_false q73)) (by kernel_rfl) rfl rfl ?_
                refine W.sq (v := .bool false) rfl (r_pick (b := false) rfl (by kernel_rfl) (by kernel_rfl)) (by kernel_rfl) rfl rfl ?_
                refine W.sq (v := .bool false) rfl (r_move rfl (by kernel_rfl)) (by kernel_rfl) rfl rfl ?_
                refine W.sq (v := .pointer (some ⟨b33, 2, none⟩)) rfl (r_field (k := 2) rfl (by kernel_rfl) (by kernel_rfl)) (by kernel_rfl) rfl rfl ?_
                refine W.sq (v := .int .i64 x23.node) rfl (r_load rfl (by kernel_rfl) (by kernel_rfl) (sgS (blk_cell (j := 2) x43 (by kernel_rfl)) (by simp))) (by kernel_rfl) rfl rfl ?_
                by_cases q76 : (x23.node : Int) < (1 : Int)
                · refine W.sq (v := .bool true) rfl (r_lss (m := x23.node) (n := 1) rfl (by kernel_rfl) (by kernel_rfl) (decide_eq_true q76)) (by kernel_rfl) rfl rfl ?_
                  refine W.sq (v := .bool true) rfl (r_pick (b := false) rfl (by kernel_rfl) (by kernel_rfl)) (by kernel_rfl) rfl rfl ?_
                  refine W.sq (v := .bool true) rfl (r_move rfl (by kernel_rfl)) (by kernel_rfl) rfl rfl ?_
                  refine W.sk s55 rfl (by kernel_rfl) rfl rfl ?_
                  refine W.sk s55 rfl (by kernel_rfl) rfl rfl ?_
                  refine W.sk s55 rfl (by kernel_rfl) rfl rfl ?_
                  refine W.sk s55 rfl (by kernel_rfl) rfl rfl ?_
                  refine W.sk s55 rfl (by kernel_rfl) rfl rfl ?_
                  refine W.sk s55 rfl (by kernel_rfl) rfl rfl ?_
                  refine W.sk s55 rfl (by kernel_rfl) rfl rfl ?_
                  refine W.sk s55 rfl (by kernel_rfl) rfl rfl ?_
                  refine W.sk s55 rfl (by kernel_rfl) rfl rfl ?_
                  refine W.sq (v := .bool true) rfl (r_pick (b := true) rfl (by kernel_rfl) (by kernel_rfl)) (by kernel_rfl) rfl rfl ?_
                  refine W.sch_endU (fun U77 => [.agg #[.int .i64 m, .slice A n c], .slice A2 n2 c2, .pointer (some ⟨b2, 0, none⟩), undef, .bool false, .int .i64 (((k + 1) : Nat) : Int), .pointer (some ⟨b33, 0, none⟩), .int .i64 (findL ps x23.pipe), (U18 8), (U18 9), (U18 10), (U18 11), (U18 12), (U18 13), (U18 14), .bool false, .slice A2 n2 c2, .int .i64 ((n2 : Nat) : Int), .int .i64 (((k + 1) : Nat) : Int), .bool true, (U45 20), (U45 21), (U45 22), (U51 23), (U51 24), (U51 25), (U51 26), U77 27, U77 28, U77 29, U77 30, U77 31, U77 32, U77 33, U77 34, U77 35, U77 36, U77 37, U77 38, U77 39, U77 40, U77 41, U77 42, U77 43, U77 44, U77 45, U77 46, U77 47, U77 48, U77 49, U77 50, U77 51, U77 52, U77 53, U77 54, U77 55, undef, undef, undef, undef, undef, undef, undef, undef, undef, .bool true, (U0 66), (U0 67), (U0 68), (U0 69), (U0 70), (U0 71)]) (by kernel_rfl) (fun U77 => ?_)
                  have x6 := SG.blk s55 x6 (by simp)
                  have x43 := SG.blk s55 x43 (by simp)
                  have c78 := (SG.belowR c52 s55 (fun kq e => by cases e))
                  refine h14 _ _ ?_
                  refine wp_cond_true (by kernel_rfl) ?_
                  refine wp_seq_k (fun K17 h17 => ?_)
                  refine W.region_quiet [(0, false)] (by kernel_rfl) ?_
                  refine W.sq (v := .bool false) rfl (r_assign rfl (by kernel_rfl)) (by kernel_rfl) rfl rfl ?_
                  refine W.sch_end (l' := [.agg #[.int .i64 m, .slice A n c], .slice A2 n2 c2, .pointer (some ⟨b2, 0, none⟩), undef, .bool false, .int .i64 (((k + 1) : Nat) : Int), .pointer (some ⟨b33, 0, none⟩), .int .i64 (findL ps x23.pipe), (U18 8), (U18 9), (U18 10), (U18 11), (U18 12), (U18 13), (U18 14), .bool false, .slice A2 n2 c2, .int .i64 ((n2 : Nat) : Int), .int .i64 (((k + 1) : Nat) : Int), .bool true, (U45 20), (U45 21), (U45 22), (U51 23), (U51 24), (U51 25), (U51 26), (U77 27), (U77 28), (U77 29), (U77 30), (U77 31), (U77 32), (U77 33), (U77 34), (U77 35), (U77 36), (U77 37), (U77 38), (U77 39), (U77 40), (U77 41), (U77 42), (U77 43), (U77 44), (U77 45), (U77 46), (U77 47), (U77 48), (U77 49), (U77 50), (U77 51), (U77 52), (U77 53), (U77 54), (U77 55), undef, undef, undef, undef, undef, undef, undef, undef, undef, .bool true, (U0 66), (U0 67), (U0 68), (U0 69), (U0 70), (U0 71)]) (by kernel_rfl) ?_
                  refine h17 _ _ ?_
                  refine wp_ret ?_
                  try simp only [Exit.then, Exit.inBlock]
                  refine ret1 (v := .bool false) rfl (by kernel_rfl) ?_
                  have e8 : okV ps vs (k + 1) = false := Bool.eq_false_iff.2 (fun h9 => by
                    have h8 := (okV_iff hx24).1 h9
                    obtain ⟨⟨hA, hB⟩, hC, hD⟩ := h8
                    obtain ⟨hC0, p9, hp9, hC1⟩ := endAt_pos hC
                    have hg9 := (good_of q14).at hp9
                    have h7 := (other_zero (u := x23.node) hg9.2.1.1 hg9.2.2.1.1)
                    have hB' := of_decide_eq_true ((above_next hx61).symm.trans hB)
                    first | omega | (rw [inB_iff.2 hA] at q58; cases q58))
                  exact ⟨ret_bool (goodV_bad (k := k + 1) (by omega) e8).symm, c78⟩
                · refine W.sq (v := .bool false) rfl (r_lss (m := x23.node) (n := 1) rfl (by kernel_rfl) (by kernel_rfl) (decide_eq_false q76)) (by kernel_rfl) rfl rfl ?_
                  refine W.sq (v := .bool false) rfl (r_pick (b := false) rfl (by kernel_rfl) (by kernel_rfl)) (by kernel_rfl) rfl rfl ?_
                  refine W.sq (v := .bool false) rfl (r_move rfl (by kernel_rfl)) (by kernel_rfl) rfl rfl ?_
                  refine W.sq (v := .pointer (some ⟨b2, 1, none⟩)) rfl (r_field (k := 1) rfl (by kernel_rfl) (by kernel_rfl)) (by kernel_rfl) rfl rfl ?_
                  refine W.sq (v := .slice A n c) rfl (r_load rfl (by kernel_rfl) (by kernel_rfl) (sgS (blk_cell (j := 1) x6 (by kernel_rfl)) (by simp))) (by kernel_rfl) rfl rfl ?_
                  refine W.sq (v := .int .i64 (findL ps x23.pipe)) rfl (r_move rfl (by kernel_rfl)) (by kernel_rfl) rfl rfl ?_
                  have hfl := findL_lt ps x23.pipe
                  obtain ⟨pz, hpz⟩ := get_of (zs := ps) (k := (findL ps x23.pipe).toNat) (by omega)
                  have hgz := (good_of q14).at hpz
                  obtain ⟨b79, o80, hA81, hb82, hc83, hc84, hc85, hc86⟩ := Rd.elPipe ha hpz
                  refine W.sq (v := .pointer (some ⟨b79, o80 + ((findL ps x23.pipe).toNat) * 4, none⟩)) rfl (r_idx (n := n) (c := c) (k := (findL ps x23.pipe).toNat) rfl (by kernel_rfl) hA81 (evk (z := findL ps x23.pipe) (by kernel_rfl) (by omega)) (by kernel_rfl) (by have := hl; omega)) (by kernel_rfl) rfl rfl ?_
                  refine W.sq (v := .agg #[.int .i64 pz.id, .int .i64 pz.fr, .int .i64 pz.to, .int .i64 pz.sz]) rfl (r_load4 rfl (by kernel_rfl) (by kernel_rfl) (by kernel_rfl) (sgS (later c52 hc83) (by simp)) (sgS (later c52 hc84) (by simp)) (sgS (later c52 hc85) (by simp)) (sgS (later c52 hc86) (by simp))) (by kernel_rfl) rfl rfl ?_
                  refine W.sq (v := .pointer (some ⟨b33, 2, none⟩)) rfl (r_field (k := 2) rfl (by kernel_rfl) (by kernel_rfl)) (by kernel_rfl) rfl rfl ?_
                  refine W.sq (v := .int .i64 x23.node) rfl (r_load rfl (by kernel_rfl) (by kernel_rfl) (sgS (blk_cell (j := 2) x43 (by kernel_rfl)) (by simp))) (by kernel_rfl) rfl rfl ?_
                  refine W.sc (vs := [.agg #[.int .i64 pz.id, .int .i64 pz.fr, .int .i64 pz.to, .int .i64 pz.sz], .int .i64 x23.node]) rfl rfl (by kernel_rfl) (by kernel_rfl) (by kernel_rfl) rfl (other_any pz x23.node _) ?_
                  rintro e w88 ⟨rfl, b87⟩
                  have s89 := SG.of_below s55 b87
                  refine ⟨_, rfl, s89, ?_⟩
                  by_cases q90 : (otherOf pz x23.node : Int) = (0 : Int)
                  · refine W.sq (v := .bool true) rfl (r_eql (m := otherOf pz x23.node) (n := 0) rfl (by kernel_rfl) (by kernel_rfl) (decide_eq_true q90)) (by kernel_rfl) rfl rfl ?_
                    refine W.sq (v := .bool true) rfl (r_pick (b := false) rfl (by kernel_rfl) (by kernel_rfl)) (by kernel_rfl) rfl rfl ?_
                    refine W.sch_endU (fun U91 => [.agg #[.int .i64 m, .slice A n c], .slice A2 n2 c2, .pointer (some ⟨b2, 0, none⟩), undef, .bool false, .int .i64 (((k + 1) : Nat) : Int), .pointer (some ⟨b33, 0, none⟩), .int .i64 (findL ps x23.pipe), (U18 8), (U18 9), (U18 10), (U18 11), (U18 12), (U18 13), (U18 14), .bool false, .slice A2 n2 c2, .int .i64 ((n2 : Nat) : Int), .int .i64 (((k + 1) : Nat) : Int), .bool true, (U45 20), (U45 21), (U45 22), (U51 23), (U51 24), (U51 25), (U51 26), U91 27, U91 28, U91 29, U91 30, U91 31, U91 32, U91 33, U91 34, U91 35, U91 36, U91 37, U91 38, U91 39, U91 40, U91 41, U91 42, U91 43, U91 44, U91 45, U91 46, U91 47, U91 48, U91 49, U91 50, U91 51, U91 52, U91 53, U91 54, U91 55, U91 56, U91 57, U91 58, U91 59, U91 60, U91 61, U91 62, U91 63, U91 64, .bool true, (U0 66), (U0 67), (U0 68), (U0 69), (U0 70), (U0 71)]) (by kernel_rfl) (fun U91 => ?_)
                    have x6 := SG.blk s89 x6 (by simp)
                    have x43 := SG.blk s89 x43 (by simp)
                    have c92 := (SG.belowR c52 s89 (fun kq e => by cases e))
                    refine h14 _ _ ?_
                    refine wp_cond_true (by kernel_rfl) ?_
                    refine wp_seq_k (fun K18 h18 => ?_)
                    refine W.region_quiet [(0, false)] (by kernel_rfl) ?_
                    refine W.sq (v := .bool false) rfl (r_assign rfl (by kernel_rfl)) (by kernel_rfl) rfl rfl ?_
                    refine W.sch_end (l' := [.agg #[.int .i64 m, .slice A n c], .slice A2 n2 c2, .pointer (some ⟨b2, 0, none⟩), undef, .bool false, .int .i64 (((k + 1) : Nat) : Int), .pointer (some ⟨b33, 0, none⟩), .int .i64 (findL ps x23.pipe), (U18 8), (U18 9), (U18 10), (U18 11), (U18 12), (U18 13), (U18 14), .bool false, .slice A2 n2 c2, .int .i64 ((n2 : Nat) : Int), .int .i64 (((k + 1) : Nat) : Int), .bool true, (U45 20), (U45 21), (U45 22), (U51 23), (U51 24), (U51 25), (U51 26), (U91 27), (U91 28), (U91 29), (U91 30), (U91 31), (U91 32), (U91 33), (U91 34), (U91 35), (U91 36), (U91 37), (U91 38), (U91 39), (U91 40), (U91 41), (U91 42), (U91 43), (U91 44), (U91 45), (U91 46), (U91 47), (U91 48), (U91 49), (U91 50), (U91 51), (U91 52), (U91 53), (U91 54), (U91 55), (U91 56), (U91 57), (U91 58), (U91 59), (U91 60), (U91 61), (U91 62), (U91 63), (U91 64), .bool true, (U0 66), (U0 67), (U0 68), (U0 69), (U0 70), (U0 71)]) (by kernel_rfl) ?_
                    refine h18 _ _ ?_
                    refine wp_ret ?_
                    try simp only [Exit.then, Exit.inBlock]
                    refine ret1 (v := .bool false) rfl (by kernel_rfl) ?_
                    have e8 : okV ps vs (k + 1) = false := Bool.eq_false_iff.2 (fun h9 => by
                      have h8 := (okV_iff hx24).1 h9
                      obtain ⟨⟨hA, hB⟩, hC, hD⟩ := h8
                      obtain ⟨hC0, p9, hp9, hC1⟩ := endAt_pos hC
                      have hg9 := (good_of q14).at hp9
                      have h7 := (other_zero (u := x23.node) hg9.2.1.1 hg9.2.2.1.1)
                      have hB' := of_decide_eq_true ((above_next hx61).symm.trans hB)
                      obtain rfl := Option.some.inj (hp9.symm.trans hpz)
                      first | omega | (rw [inB_iff.2 hA] at q58; cases q58))
                    exact ⟨ret_bool (goodV_bad (k := k + 1) (by omega) e8).symm, c92⟩
                  · refine W.sq (v := .bool false) rfl (r_eql (m := otherOf pz x23.node) (n := 0) rfl (by kernel_rfl) (by kernel_rfl) (decide_eq_false q90)) (by kernel_rfl) rfl rfl ?_
                    refine W.sq (v := .bool false) rfl (r_pick (b := false) rfl (by kernel_rfl) (by kernel_rfl)) (by kernel_rfl) rfl rfl ?_
                    refine W.sch_endU (fun U93 => [.agg #[.int .i64 m, .slice A n c], .slice A2 n2 c2, .pointer (some ⟨b2, 0, none⟩), undef, .bool false, .int .i64 (((k + 1) : Nat) : Int), .pointer (some ⟨b33, 0, none⟩), .int .i64 (findL ps x23.pipe), (U18 8), (U18 9), (U18 10), (U18 11), (U18 12), (U18 13), (U18 14), .bool false, .slice A2 n2 c2, .int .i64 ((n2 : Nat) : Int), .int .i64 (((k + 1) : Nat) : Int), .bool true, (U45 20), (U45 21), (U45 22), (U51 23), (U51 24), (U51 25), (U51 26), U93 27, U93 28, U93 29, U93 30, U93 31, U93 32, U93 33, U93 34, U93 35, U93 36, U93 37, U93 38, U93 39, U93 40, U93 41, U93 42, U93 43, U93 44, U93 45, U93 46, U93 47, U93 48, U93 49, U93 50, U93 51, U93 52, U93 53, U93 54, U93 55, U93 56, U93 57, U93 58, U93 59, U93 60, U93 61, U93 62, U93 63, U93 64, .bool false, (U0 66), (U0 67), (U0 68), (U0 69), (U0 70), (U0 71)]) (by kernel_rfl) (fun U93 => ?_)
                    have x6 := SG.blk s89 x6 (by simp)
                    have x43 := SG.blk s89 x43 (by simp)
                    have c94 := (SG.belowR c52 s89 (fun kq e => by cases e))
                    refine h14 _ _ ?_
                    refine wp_cond_false (by kernel_rfl) ?_
                    refine wp_skip ?_
                    refine h13 _ _ ?_
                    refine wp_seq_k (fun K19 h19 => ?_)
                    refine W.region_plain (row := none) [(0, false), (1, false), (2, false), (3, false), (4, true)] (by kernel_rfl) ?_
                    have s95 := SG.self w88 none
                    refine W.sq (v := .slice A2 n2 c2) rfl (r_move rfl (by kernel_rfl)) (by kernel_rfl) rfl rfl ?_
                    refine W.sq (v := .int .i64 (((k + 1) : Nat) : Int)) rfl (r_move rfl (by kernel_rfl)) (by kernel_rfl) rfl rfl ?_
                    refine W.sq (v := .slice A2 (k + 1) c2) rfl (r_sliceTo (A := A2) (n := n2) (c := c2) (k := (k + 1)) (size := 4) rfl (by kernel_rfl) (by kernel_rfl) (by kernel_rfl) (by have := (hfm2).le; omega)) (by kernel_rfl) rfl rfl ?_
                    refine W.sq (v := .func (.func 119) #[] #[.pointer (some ⟨b33, 0, none⟩)]) rfl (r_makeFunc (vs := [.pointer (some ⟨b33, 0, none⟩)]) rfl (by kernel_rfl)) (by kernel_rfl) rfl rfl ?_
                    refine W.sc (vs := [.slice A2 (k + 1) c2, .func (.func 119) #[] #[.pointer (some ⟨b33, 0, none⟩)]]) rfl rfl (by kernel_rfl) (by kernel_rfl) (by kernel_rfl) rfl (anyV_any A2 (k + 1) c2 (vs.take (k + 1)) 119 #[.pointer (some ⟨b33, 0, none⟩)] (fun v => decide (v.pipe = x23.pipe) && decide (v.node = x23.node)) _ (Rd.toV (Rd.kept hb (SG.belowR c94 s95 (fun kq e => by cases e))) (by omega)) (by omega) (by kernel_rfl) (fun W v hW => validF_any v x23 b33 W ((hW.block _ (blk_lt x43)).trans x43))) ?_
                    rintro e w97 ⟨rfl, b96⟩
                    have s98 := SG.of_below s95 b96
                    refine ⟨_, rfl, s98, ?_⟩
                    rcases Bool.eq_false_or_eq_true ((vs.take (k + 1)).any (fun v => decide (v.pipe = x23.pipe) && decide (v.node = x23.node))) with q99 | q99
                    · rw [q99]
                      refine W.sch_endU (fun U100 => [.agg #[.int .i64 m, .slice A n c], .slice A2 n2 c2, .pointer (some ⟨b2, 0, none⟩), undef, .bool false, .int .i64 (((k + 1) : Nat) : Int), .pointer (some ⟨b33, 0, none⟩), .int .i64 (findL ps x23.pipe), (U18 8), (U18 9), (U18 10), (U18 11), (U18 12), (U18 13), (U18 14), .bool false, .slice A2 n2 c2, .int .i64 ((n2 : Nat) : Int), .int .i64 (((k + 1) : Nat) : Int), .bool true, (U45 20), (U45 21), (U45 22), (U51 23), (U51 24), (U51 25), (U51 26), (U93 27), (U93 28), (U93 29), (U93 30), (U93 31), (U93 32), (U93 33), (U93 34), (U93 35), (U93 36), (U93 37), (U93 38), (U93 39), (U93 40), (U93 41), (U93 42), (U93 43), (U93 44), (U93 45), (U93 46), (U93 47), (U93 48), (U93 49), (U93 50), (U93 51), (U93 52), (U93 53), (U93 54), (U93 55), (U93 56), (U93 57), (U93 58), (U93 59), (U93 60), (U93 61), (U93 62), (U93 63), (U93 64), .bool false, U100 66, U100 67, U100 68, U100 69, .bool true, (U0 71)]) (by kernel_rfl) (fun U100 => ?_)
                      have x6 := SG.blk s98 x6 (by simp)
                      have x43 := SG.blk s98 x43 (by simp)
                      have c101 := (SG.belowR c94 s98 (fun kq e => by cases e))
                      refine h19 _ _ ?_
                      refine wp_cond_true (by kernel_rfl) ?_
                      refine wp_seq_k (fun K20 h20 => ?_)
                      refine W.region_quiet [(0, false)] (by kernel_rfl) ?_
                      refine W.sq (v := .bool false) rfl (r_assign rfl (by kernel_rfl)) (by kernel_rfl) rfl rfl ?_
                      refine W.sch_end (l' := [.agg #[.int .i64 m, .slice A n c], .slice A2 n2 c2, .pointer (some ⟨b2, 0, none⟩), undef, .bool false, .int .i64 (((k + 1) : Nat) : Int), .pointer (some ⟨b33, 0, none⟩), .int .i64 (findL ps x23.pipe), (U18 8), (U18 9), (U18 10), (U18 11), (U18 12), (U18 13), (U18 14), .bool false, .slice A2 n2 c2, .int .i64 ((n2 : Nat) : Int), .int .i64 (((k + 1) : Nat) : Int), .bool true, (U45 20), (U45 21), (U45 22), (U51 23), (U51 24), (U51 25), (U51 26), (U93 27), (U93 28), (U93 29), (U93 30), (U93 31), (U93 32), (U93 33), (U93 34), (U93 35), (U93 36), (U93 37), (U93 38), (U93 39), (U93 40), (U93 41), (U93 42), (U93 43), (U93 44), (U93 45), (U93 46), (U93 47), (U93 48), (U93 49), (U93 50), (U93 51), (U93 52), (U93 53), (U93 54), (U93 55), (U93 56), (U93 57), (U93 58), (U93 59), (U93 60), (U93 61), (U93 62), (U93 63), (U93 64), .bool false, (U100 66), (U100 67), (U100 68), (U100 69), .bool true, (U0 71)]) (by kernel_rfl) ?_
                      refine h20 _ _ ?_
                      refine wp_ret ?_
                      try simp only [Exit.then, Exit.inBlock]
                      refine ret1 (v := .bool false) rfl (by kernel_rfl) ?_
                      have e8 : okV ps vs (k + 1) = false := Bool.eq_false_iff.2 (fun h9 => by
                        have h8 := (okV_iff hx24).1 h9
                        obtain ⟨⟨hA, hB⟩, hC, hD⟩ := h8
                        obtain ⟨hC0, p9, hp9, hC1⟩ := endAt_pos hC
                        have hg9 := (good_of q14).at hp9
                        have h7 := (other_zero (u := x23.node) hg9.2.1.1 hg9.2.2.1.1)
                        have hB' := of_decide_eq_true ((above_next hx61).symm.trans hB)
                        obtain rfl := Option.some.inj (hp9.symm.trans hpz)
                        exact absurd (show placed (vs.take (k + 1)) x23.pipe x23.node = true from q99) (by rw [hD]; simp))
                      exact ⟨ret_bool (goodV_bad (k := k + 1) (by omega) e8).symm, c101⟩
                    · rw [q99]
                      refine W.sch_endU (fun U102 => [.agg #[.int .i64 m, .slice A n c], .slice A2 n2 c2, .pointer (some ⟨b2, 0, none⟩), undef, .bool false, .int .i64 (((k + 1) : Nat) : Int), .pointer (some ⟨b33, 0, none⟩), .int .i64 (findL ps x23.pipe), (U18 8), (U18 9), (U18 10), (U18 11), (U18 12), (U18 13), (U18 14), .bool false, .slice A2 n2 c2, .int .i64 ((n2 : Nat) : Int), .int .i64 (((k + 1) : Nat) : Int), .bool true, (U45 20), (U45 21), (U45 22), (U51 23), (U51 24), (U51 25), (U51 26), (U93 27), (U93 28), (U93 29), (U93 30), (U93 31), (U93 32), (U93 33), (U93 34), (U93 35), (U93 36), (U93 37), (U93 38), (U93 39), (U93 40), (U93 41), (U93 42), (U93 43), (U93 44), (U93 45), (U93 46), (U93 47), (U93 48), (U93 49), (U93 50), (U93 51), (U93 52), (U93 53), (U93 54), (U93 55), (U93 56), (U93 57), (U93 58), (U93 59), (U93 60), (U93 61), (U93 62), (U93 63), (U93 64), .bool false, U102 66, U102 67, U102 68, U102 69, .bool false, (U0 71)]) (by kernel_rfl) (fun U102 => ?_)
                      have x6 := SG.blk s98 x6 (by simp)
                      have x43 := SG.blk s98 x43 (by simp)
                      have c103 := (SG.belowR c94 s98 (fun kq e => by cases e))
                      refine h19 _ _ ?_
                      refine wp_cond_false (by kernel_rfl) ?_
                      refine wp_skip ?_
                      refine h10 _ _ ?_
                      refine W.region_quiet [(0, false), (1, false)] (by kernel_rfl) ?_
                      refine W.sq (v := .int .i64 (((k + 1) + 1 : Nat) : Int)) rfl (r_add (m := (((k + 1) : Nat) : Int)) (n := 1) (z := (((k + 1) + 1 : Nat) : Int)) rfl (by kernel_rfl) (by kernel_rfl) (by omega) (by omega)) (by kernel_rfl) rfl rfl ?_
                      refine W.sq (v := .int .i64 (((k + 1) + 1 : Nat) : Int)) rfl (r_move rfl (by kernel_rfl)) (by kernel_rfl) rfl rfl ?_
                      refine W.sch_endU (fun U104 => [.agg #[.int .i64 m, .slice A n c], .slice A2 n2 c2, .pointer (some ⟨b2, 0, none⟩), undef, .bool false, .int .i64 (((k + 1) : Nat) : Int), .pointer (some ⟨b33, 0, none⟩), .int .i64 (findL ps x23.pipe), (U18 8), (U18 9), (U18 10), (U18 11), (U18 12), (U18 13), (U18 14), .bool false, .slice A2 n2 c2, .int .i64 ((n2 : Nat) : Int), .int .i64 (((k + 1) + 1 : Nat) : Int), .bool true, (U45 20), (U45 21), (U45 22), (U51 23), (U51 24), (U51 25), (U51 26), (U93 27), (U93 28), (U93 29), (U93 30), (U93 31), (U93 32), (U93 33), (U93 34), (U93 35), (U93 36), (U93 37), (U93 38), (U93 39), (U93 40), (U93 41), (U93 42), (U93 43), (U93 44), (U93 45), (U93 46), (U93 47), (U93 48), (U93 49), (U93 50), (U93 51), (U93 52), (U93 53), (U93 54), (U93 55), (U93 56), (U93 57), (U93 58), (U93 59), (U93 60), (U93 61), (U93 62), (U93 63), (U93 64), .bool false, (U102 66), (U102 67), (U102 68), (U102 69), .bool false, U104 71]) (by kernel_rfl) (fun U104 => ?_)
                      exact h7 _ _ _ (by omega : (n2 - (k + 1 + 1)) < _) ⟨k + 1 + 1, (fun iU9 => [.agg #[.int .i64 m, .slice A n c], .slice A2 n2 c2, .pointer (some ⟨b2, 0, none⟩), undef, .bool false, .int .i64 (((k + 1) : Nat) : Int), .pointer (some ⟨b33, 0, none⟩), .int .i64 (findL ps x23.pipe), (U18 8), (U18 9), (U18 10), (U18 11), (U18 12), (U18 13), (U18 14), .bool false, .slice A2 n2 c2, .int .i64 ((n2 : Nat) : Int), .int .i64 (((k + 1) + 1 : Nat) : Int), .bool true, (U45 20), (U45 21), (U45 22), (U51 23), (U51 24), (U51 25), (U51 26), (U93 27), (U93 28), (U93 29), (U93 30), (U93 31), (U93 32), (U93 33), (U93 34), (U93 35), (U93 36), (U93 37), (U93 38), (U93 39), (U93 40), (U93 41), (U93 42), (U93 43), (U93 44), (U93 45), (U93 46), (U93 47), (U93 48), (U93 49), (U93 50), (U93 51), (U93 52), (U93 53), (U93 54), (U93 55), (U93 56), (U93 57), (U93 58), (U93 59), (U93 60), (U93 61), (U93 62), (U93 63), (U93 64), .bool false, (U102 66), (U102 67), (U102 68), (U102 69), .bool false, (U104 71)].getD iU9 undef), (by kernel_rfl), rfl, (by omega), (okVTo_next hok ((okV_iff hx24).2 ⟨⟨inB_iff.1 q58, (by rw [above_next hx61]; exact decide_eq_true (by omega))⟩, endAt_of (by omega) hpz (by have h9 := (other_zero (u := x23.node) hgz.2.1.1 hgz.2.2.1.1); omega), q99⟩)), x6, c103⟩
          · refine W.sq (v := .bool false) rfl (r_gtr (m := ((K : Nat) : Int)) (n := 0) rfl (by kernel_rfl) (by kernel_rfl) (decide_eq_false q59)) (by kernel_rfl) rfl rfl ?_
            refine W.sq (v := .bool false) rfl (r_move rfl (by kernel_rfl)) (by kernel_rfl) rfl rfl ?_
            refine W.sk s55 rfl (by kernel_rfl) rfl rfl ?_
            refine W.sk s55 rfl (by kernel_rfl) rfl rfl ?_
            refine W.sk s55 rfl (by kernel_rfl) rfl rfl ?_
            refine W.sk s55 rfl (by kernel_rfl) rfl rfl ?_
            refine W.sk s55 rfl (by kernel_rfl) rfl rfl ?_
            refine W.sk s55 rfl (by kernel_rfl) rfl rfl ?_
            refine W.sk s55 rfl (by kernel_rfl) rfl rfl ?_
            refine W.sk s55 rfl (by kernel_rfl) rfl rfl ?_
            refine W.sk s55 rfl (by kernel_rfl) rfl rfl ?_
            refine W.sq (v := .bool false) rfl (r_pick (b := false) rfl (by kernel_rfl) (by kernel_rfl)) (by kernel_rfl) rfl rfl ?_
            refine W.sq (v := .bool false) rfl (r_pick (b := false) rfl (by kernel_rfl) (by kernel_rfl)) (by kernel_rfl) rfl rfl ?_
            refine W.sq (v := .bool false) rfl (r_move rfl (by kernel_rfl)) (by kernel_rfl) rfl rfl ?_
            refine W.sq (v := .int .i64 (findL ps x23.pipe)) rfl (r_move rfl (by kernel_rfl)) (by kernel_rfl) rfl rfl ?_
            by_cases q105 : (findL ps x23.pipe : Int) < (0 : Int)
            · refine W.sq (v := .bool true) rfl (r_lss (m := findL ps x23.pipe) (n := 0) rfl (by kernel_rfl) (by kernel_rfl) (decide_eq_true q105)) (by kernel_rfl) rfl rfl ?_
              refine W.sq (v := .bool true) rfl (r_pick (b := false) rfl (by kernel_rfl) (by kernel_rfl)) (by kernel_rfl) rfl rfl ?_
              refine W.sq (v := .bool true) rfl (r_move rfl (by kernel_rfl)) (by kernel_rfl) rfl rfl ?_
              refine W.sk s55 rfl (by kernel_rfl) rfl rfl ?_
              refine W.sk s55 rfl (by kernel_rfl) rfl rfl ?_
              refine W.sk s55 rfl (by kernel_rfl) rfl rfl ?_
              refine W.sq (v := .bool true) rfl (r_pick (b := true) rfl (by kernel_rfl) (by kernel_rfl)) (by kernel_rfl) rfl rfl ?_
              refine W.sq (v := .bool true) rfl (r_move rfl (by kernel_rfl)) (by kernel_rfl) rfl rfl ?_
              refine W.sk s55 rfl (by kernel_rfl) rfl rfl ?_
              refine W.sk s55 rfl (by kernel_rfl) rfl rfl ?_
              refine W.sk s55 rfl (by kernel_rfl) rfl rfl ?_
              refine W.sk s55 rfl (by kernel_rfl) rfl rfl ?_
              refine W.sk s55 rfl (by kernel_rfl) rfl rfl ?_
              refine W.sk s55 rfl (by kernel_rfl) rfl rfl ?_
              refine W.sk s55 rfl (by kernel_rfl) rfl rfl ?_
              refine W.sk s55 rfl (by kernel_rfl) rfl rfl ?_
              refine W.sk s55 rfl (by kernel_rfl) rfl rfl ?_
              refine W.sq (v := .bool true) rfl (r_pick (b := true) rfl (by kernel_rfl) (by kernel_rfl)) (by kernel_rfl) rfl rfl ?_
              refine W.sch_endU (fun U106 => [.agg #[.int .i64 m, .slice A n c], .slice A2 n2 c2, .pointer (some ⟨b2, 0, none⟩), undef, .bool false, .int .i64 ((K : Nat) : Int), .pointer (some ⟨b33, 0, none⟩), .int .i64 (findL ps x23.pipe), (U18 8), (U18 9), (U18 10), (U18 11), (U18 12), (U18 13), (U18 14), .bool false, .slice A2 n2 c2, .int .i64 ((n2 : Nat) : Int), .int .i64 ((K : Nat) : Int), .bool true, (U45 20), (U45 21), (U45 22), (U51 23), (U51 24), (U51 25), (U51 26), U106 27, U106 28, U106 29, U106 30, U106 31, U106 32, U106 33, U106 34, undef, undef, undef, undef, undef, undef, undef, undef, undef, U106 44, U106 45, U106 46, U106 47, U106 48, U106 49, U106 50, undef, undef, undef, U106 54, U106 55, undef, undef, undef, undef, undef, undef, undef, undef, undef, .bool true, (U0 66), (U0 67), (U0 68), (U0 69), (U0 70), (U0 71)]) (by kernel_rfl) (fun U106 => ?_)
              have x6 := SG.blk s55 x6 (by simp)
              have x43 := SG.blk s55 x43 (by simp)
              have c107 := (SG.belowR c52 s55 (fun kq e => by cases e))
              refine h14 _ _ ?_
              refine wp_cond_true (by kernel_rfl) ?_
              refine wp_seq_k (fun K21 h21 => ?_)
              refine W.region_quiet [(0, false)] (by kernel_rfl) ?_
              refine W.sq (v := .bool false) rfl (r_assign rfl (by kernel_rfl)) (by kernel_rfl) rfl rfl ?_
              refine W.sch_end (l' := [.agg #[.int .i64 m, .slice A n c], .slice A2 n2 c2, .pointer (some ⟨b2, 0, none⟩), undef, .bool false, .int .i64 ((K : Nat) : Int), .pointer (some ⟨b33, 0, none⟩), .int .i64 (findL ps x23.pipe), (U18 8), (U18 9), (U18 10), (U18 11), (U18 12), (U18 13), (U18 14), .bool false, .slice A2 n2 c2, .int .i64 ((n2 : Nat) : Int), .int .i64 ((K : Nat) : Int), .bool true, (U45 20), (U45 21), (U45 22), (U51 23), (U51 24), (U51 25), (U51 26), (U106 27), (U106 28), (U106 29), (U106 30), (U106 31), (U106 32), (U106 33), (U106 34), undef, undef, undef, undef, undef, undef, undef, undef, undef, (U106 44), (U106 45), (U106 46), (U106 47), (U106 48), (U106 49), (U106 50), undef, undef, undef, (U106 54), (U106 55), undef, undef, undef, undef, undef, undef, undef, undef, undef, .bool true, (U0 66), (U0 67), (U0 68), (U0 69), (U0 70), (U0 71)]) (by kernel_rfl) ?_
              refine h21 _ _ ?_
              refine wp_ret ?_
              try simp only [Exit.then, Exit.inBlock]
              refine ret1 (v := .bool false) rfl (by kernel_rfl) ?_
              have e8 : okV ps vs (K) = false := Bool.eq_false_iff.2 (fun h9 => by
                have h8 := (okV_iff hx24).1 h9
                obtain ⟨⟨hA, hB⟩, hC, hD⟩ := h8
                obtain ⟨hC0, p9, hp9, hC1⟩ := endAt_pos hC
                have hg9 := (good_of q14).at hp9
                have h7 := (other_zero (u := x23.node) hg9.2.1.1 hg9.2.2.1.1)
                first | omega | (rw [inB_iff.2 hA] at q58; cases q58))
              exact ⟨ret_bool (goodV_bad (k := K) (by omega) e8).symm, c107⟩
            · refine W.sq (v := .bool false) rfl (r_lss (m := findL ps x23.pipe) (n := 0) rfl (by kernel_rfl) (by kernel_rfl) (decide_eq_false q105)) (by kernel_rfl) rfl rfl ?_
              refine W.sq (v := .bool false) rfl (r_pick (b := false) rfl (by kernel_rfl) (by kernel_rfl)) (by kernel_rfl) rfl rfl ?_
              refine W.sq (v := .bool false) rfl (r_move rfl (by kernel_rfl)) (by kernel_rfl) rfl rfl ?_
              refine W.sq (v := .pointer (some ⟨b33, 2, none⟩)) rfl (r_field (k := 2) rfl (by kernel_rfl) (by kernel_rfl)) (by kernel_rfl) rfl rfl ?_
              refine W.sq (v := .int .i64 x23.node) rfl (r_load rfl (by kernel_rfl) (by kernel_rfl) (sgS (blk_cell (j := 2) x43 (by kernel_rfl)) (by simp))) (by kernel_rfl) rfl rfl ?_
              by_cases q108 : (x23.node : Int) < (1 : Int)
              · refine W.sq (v := .bool true) rfl (r_lss (m := x23.node) (n := 1) rfl (by kernel_rfl) (by kernel_rfl) (decide_eq_true q108)) (by kernel_rfl) rfl rfl ?_
                refine W.sq (v := .bool true) rfl (r_pick (b := false) rfl (by kernel_rfl) (by kernel_rfl)) (by kernel_rfl) rfl rfl ?_
                refine W.sq (v := .bool true) rfl (r_move rfl (by kernel_rfl)) (by kernel_rfl) rfl rfl ?_
                refine W.sk s55 rfl (by kernel_rfl) rfl rfl ?_
                refine W.sk s55 rfl (by kernel_rfl) rfl rfl ?_
                refine W.sk s55 rfl (by kernel_rfl) rfl rfl ?_
                refine W.sk s55 rfl (by kernel_rfl) rfl rfl ?_
                refine W.sk s55 rfl (by kernel_rfl) rfl rfl ?_
                refine W.sk s55 rfl (by kernel_rfl) rfl rfl ?_
                refine W.sk s55 rfl (by kernel_rfl) rfl rfl ?_
                refine W.sk s55 rfl (by kernel_rfl) rfl rfl ?_
                refine W.sk s55 rfl (by kernel_rfl) rfl rfl ?_
                refine W.sq (v := .bool true) rfl (r_pick (b := true) rfl (by kernel_rfl) (by kernel_rfl)) (by kernel_rfl) rfl rfl ?_
                refine W.sch_endU (fun U109 => [.agg #[.int .i64 m, .slice A n c], .slice A2 n2 c2, .pointer (some ⟨b2, 0, none⟩), undef, .bool false, .int .i64 ((K : Nat) : Int), .pointer (some ⟨b33, 0, none⟩), .int .i64 (findL ps x23.pipe), (U18 8), (U18 9), (U18 10), (U18 11), (U18 12), (U18 13), (U18 14), .bool false, .slice A2 n2 c2, .int .i64 ((n2 : Nat) : Int), .int .i64 ((K : Nat) : Int), .bool true, (U45 20), (U45 21), (U45 22), (U51 23), (U51 24), (U51 25), (U51 26), U109 27, U109 28, U109 29, U109 30, U109 31, U109 32, U109 33, U109 34, undef, undef, undef, undef, undef, undef, undef, undef, undef, U109 44, U109 45, U109 46, U109 47, U109 48, U109 49, U109 50, U109 51, U109 52, U109 53, U109 54, U109 55, undef, undef, undef, undef, undef, undef, undef, undef, undef, .bool true, (U0 66), (U0 67), (U0 68), (U0 69), (U0 70), (U0 71)]) (by kernel_rfl) (fun U109 => ?_)
                have x6 := SG.blk s55 x6 (by simp)
                have x43 := SG.blk s55 x43 (by simp)
                have c110 := (SG.belowR c52 s55 (fun kq e => by cases e))
                refine h14 _ _ ?_
                refine wp_cond_true (by kernel_rfl) ?_
                refine wp_seq_k (fun K22 h22 => ?_)
                refine W.region_quiet [(0, false)] (by kernel_rfl) ?_
                refine W.sq (v := .bool false) rfl (r_assign rfl (by kernel_rfl)) (by kernel_rfl) rfl rfl ?_
                refine W.sch_end (l' := [.agg #[.int .i64 m, .slice A n c], .slice A2 n2 c2, .pointer (some ⟨b2, 0, none⟩), undef, .bool false, .int .i64 ((K : Nat) : Int), .pointer (some ⟨b33, 0, none⟩), .int .i64 (findL ps x23.pipe), (U18 8), (U18 9), (U18 10), (U18 11), (U18 12), (U18 13), (U18 14), .bool false, .slice A2 n2 c2, .int .i64 ((n2 : Nat) : Int), .int .i64 ((K : Nat) : Int), .bool true, (U45 20), (U45 21), (U45 22), (U51 23), (U51 24), (U51 25), (U51 26), (U109 27), (U109 28), (U109 29), (U109 30), (U109 31), (U109 32), (U109 33), (U109 34), undef, undef, undef, undef, undef, undef, undef, undef, undef, (U109 44), (U109 45), (U109 46), (U109 47), (U109 48), (U109 49), (U109 50), (U109 51), (U109 52), (U109 53), (U109 54), (U109 55), undef, undef, undef, undef, undef, undef, undef, undef, undef, .bool true, (U0 66), (U0 67), (U0 68), (U0 69), (U0 70), (U0 71)]) (by kernel_rfl) ?_
                refine h22 _ _ ?_
                refine wp_ret ?_
                try simp only [Exit.then, Exit.inBlock]
                refine ret1 (v := .bool false) rfl (by kernel_rfl) ?_
                have e8 : okV ps vs (K) = false := Bool.eq_false_iff.2 (fun h9 => by
                  have h8 := (okV_iff hx24).1 h9
                  obtain ⟨⟨hA, hB⟩, hC, hD⟩ := h8
                  obtain ⟨hC0, p9, hp9, hC1⟩ := endAt_pos hC
                  have hg9 := (good_of q14).at hp9
                  have h7 := (other_zero (u := x23.node) hg9.2.1.1 hg9.2.2.1.1)
                  first | omega | (rw [inB_iff.2 hA] at q58; cases q58))
                exact ⟨ret_bool (goodV_bad (k := K) (by omega) e8).symm, c110⟩
              · refine W.sq (v := .bool false) rfl (r_lss (m := x23.node) (n := 1) rfl (by kernel_rfl) (by kernel_rfl) (decide_eq_false q108)) (by kernel_rfl) rfl rfl ?_
                refine W.sq (v := .bool false) rfl (r_pick (b := false) rfl (by kernel_rfl) (by kernel_rfl)) (by kernel_rfl) rfl rfl ?_
                refine W.sq (v := .bool false) rfl (r_move rfl (by kernel_rfl)) (by kernel_rfl) rfl rfl ?_
                refine W.sq (v := .pointer (some ⟨b2, 1, none⟩)) rfl (r_field (k := 1) rfl (by kernel_rfl) (by kernel_rfl)) (by kernel_rfl) rfl rfl ?_
                refine W.sq (v := .slice A n c) rfl (r_load rfl (by kernel_rfl) (by kernel_rfl) (sgS (blk_cell (j := 1) x6 (by kernel_rfl)) (by simp))) (by kernel_rfl) rfl rfl ?_
                refine W.sq (v := .int .i64 (findL ps x23.pipe)) rfl (r_move rfl (by kernel_rfl)) (by kernel_rfl) rfl rfl ?_
                have hfl := findL_lt ps x23.pipe
                obtain ⟨pz, hpz⟩ := get_of (zs := ps) (k := (findL ps x23.pipe).toNat) (by omega)
                have hgz := (good_of q14).at hpz
                obtain ⟨b111, o112, hA113, hb114, hc115, hc116, hc117, hc118⟩ := Rd.elPipe ha hpz
                refine W.sq (v := .pointer (some ⟨b111, o112 + ((findL ps x23.pipe).toNat) * 4, none⟩)) rfl (r_idx (n := n) (c := c) (k := (findL ps x23.pipe).toNat) rfl (by kernel_rfl) hA113 (evk (z := findL ps x23.pipe) (by kernel_rfl) (by omega)) (by kernel_rfl) (by have := hl; omega)) (by kernel_rfl) rfl rfl ?_
                refine W.sq (v := .agg #[.int .i64 pz.id, .int .i64 pz.fr, .int .i64 pz.to, .int .i64 pz.sz]) rfl (r_load4 rfl (by kernel_rfl) (by kernel_rfl) (by kernel_rfl) (sgS (later c52 hc115) (by simp)) (sgS (later c52 hc116) (by simp)) (sgS (later c52 hc117) (by simp)) (sgS (later c52 hc118) (by simp))) (by kernel_rfl) rfl rfl ?_
                refine W.sq (v := .pointer (some ⟨b33, 2, none⟩)) rfl (r_field (k := 2) rfl (by kernel_rfl) (by kernel_rfl)) (by kernel_rfl) rfl rfl ?_
                refine W.sq (v := .int .i64 x23.node) rfl (r_load rfl (by kernel_rfl) (by kernel_rfl) (sgS (blk_cell (j := 2) x43 (by kernel_rfl)) (by simp))) (by kernel_rfl) rfl rfl ?_
                refine W.sc (vs := [.agg #[.int .i64 pz.id, .int .i64 pz.fr, .int .i64 pz.to, .int .i64 pz.sz], .int .i64 x23.node]) rfl rfl (by kernel_rfl) (by kernel_rfl) (by kernel_rfl) rfl (other_any pz x23.node _) ?_
                rintro e w120 ⟨rfl, b119⟩
                have s121 := SG.of_below s55 b119
                refine ⟨_, rfl, s121, ?_⟩
                by_cases q122 : (otherOf pz x23.node : Int) = (0 : Int)
                · refine W.sq (v := .bool true) rfl (r_eql (m := otherOf pz x23.node) (n := 0) rfl (by kernel_rfl) (by kernel_rfl) (decide_eq_true q122)) (by kernel_rfl) rfl rfl ?_
                  refine W.sq (v := .bool true) rfl (r_pick (b := false) rfl (by kernel_rfl) (by kernel_rfl)) (by kernel_rfl) rfl rfl ?_
                  refine W.sch_endU (fun U123 => [.agg #[.int .i64 m, .slice A n c], .slice A2 n2 c2, .pointer (some ⟨b2, 0, none⟩), undef, .bool false, .int .i64 ((K : Nat) : Int), .pointer (some ⟨b33, 0, none⟩), .int .i64 (findL ps x23.pipe), (U18 8), (U18 9), (U18 10), (U18 11), (U18 12), (U18 13), (U18 14), .bool false, .slice A2 n2 c2, .int .i64 ((n2 : Nat) : Int), .int .i64 ((K : Nat) : Int), .bool true, (U45 20), (U45 21), (U45 22), (U51 23), (U51 24), (U51 25), (U51 26), U123 27, U123 28, U123 29, U123 30, U123 31, U123 32, U123 33, U123 34, undef, undef, undef, undef, undef, undef, undef, undef, undef, U123 44, U123 45, U123 46, U123 47, U123 48, U123 49, U123 50, U123 51, U123 52, U123 53, U123 54, U123 55, U123 56, U123 57, U123 58, U123 59, U123 60, U123 61, U123 62, U123 63, U123 64, .bool true, (U0 66), (U0 67), (U0 68), (U0 69), (U0 70), (U0 71)]) (by kernel_rfl) (fun U123 => ?_)
                  have x6 := SG.blk s121 x6 (by simp)
                  have x43 := SG.blk s121 x43 (by simp)
                  have c124 := (SG.belowR c52 s121 (fun kq e => by cases e))
                  refine h14 _ _ ?_
                  refine wp_cond_true (by kernel_rfl) ?_
                  refine wp_seq_k (fun K23 h23 => ?_)
                  refine W.region_quiet [(0, false)] (by kernel_rfl) ?_
                  refine W.sq (v := .bool false) rfl (r_assign rfl (by kernel_rfl)) (by kernel_rfl) rfl rfl ?_
                  refine W.sch_end (l' := [.agg #[.int .i64 m, .slice A n c], .slice A2 n2 c2, .pointer (some ⟨b2, 0, none⟩), undef, .bool false, .int .i64 ((K : Nat) : Int), .pointer (some ⟨b33, 0, none⟩), .int .i64 (findL ps x23.pipe), (U18 8), (U18 9), (U18 10), (U18 11), (U18 12), (U18 13), (U18 14), .bool false, .slice A2 n2 c2, .int .i64 ((n2 : Nat) : Int), .int .i64 ((K : Nat) : Int), .bool true, (U45 20), (U45 21), (U45 22), (U51 23), (U51 24), (U51 25), (U51 26), (U123 27), (U123 28), (U123 29), (U123 30), (U123 31), (U123 32), (U123 33), (U123 34), undef, undef, undef, undef, undef, undef, undef, undef, undef, (U123 44), (U123 45), (U123 46), (U123 47), (U123 48), (U123 49), (U123 50), (U123 51), (U123 52), (U123 53), (U123 54), (U123 55), (U123 56), (U123 57), (U123 58), (U123 59), (U123 60), (U123 61), (U123 62), (U123 63), (U123 64), .bool true, (U0 66), (U0 67), (U0 68), (U0 69), (U0 70), (U0 71)]) (by kernel_rfl) ?_
                  refine h23 _ _ ?_
                  refine wp_ret ?_
                  try simp only [Exit.then, Exit.inBlock]
                  refine ret1 (v := .bool false) rfl (by kernel_rfl) ?_
                  have e8 : okV ps vs (K) = false := Bool.eq_false_iff.2 (fun h9 => by
                    have h8 := (okV_iff hx24).1 h9
                    obtain ⟨⟨hA, hB⟩, hC, hD⟩ := h8
                    obtain ⟨hC0, p9, hp9, hC1⟩ := endAt_pos hC
                    have hg9 := (good_of q14).at hp9
                    have h7 := (other_zero (u := x23.node) hg9.2.1.1 hg9.2.2.1.1)
                    obtain rfl := Option.some.inj (hp9.symm.trans hpz)
                    first | omega | (rw [inB_iff.2 hA] at q58; cases q58))
                  exact ⟨ret_bool (goodV_bad (k := K) (by omega) e8).symm, c124⟩
                · refine W.sq (v := .bool false) rfl (r_eql (m := otherOf pz x23.node) (n := 0) rfl (by kernel_rfl) (by kernel_rfl) (decide_eq_false q122)) (by kernel_rfl) rfl rfl ?_
                  refine W.sq (v := .bool false) rfl (r_pick (b := false) rfl (by kernel_rfl) (by kernel_rfl)) (by kernel_rfl) rfl rfl ?_
                  refine W.sch_endU (fun U125 => [.agg #[.int .i64 m, .slice A n c], .slice A2 n2 c2, .pointer (some ⟨b2, 0, none⟩), undef, .bool false, .int .i64 ((K : Nat) : Int), .pointer (some ⟨b33, 0, none⟩), .int .i64 (findL ps x23.pipe), (U18 8), (U18 9), (U18 10), (U18 11), (U18 12), (U18 13), (U18 14), .bool false, .slice A2 n2 c2, .int .i64 ((n2 : Nat) : Int), .int .i64 ((K : Nat) : Int), .bool true, (U45 20), (U45 21), (U45 22), (U51 23), (U51 24), (U51 25), (U51 26), U125 27, U125 28, U125 29, U125 30, U125 31, U125 32, U125 33, U125 34, undef, undef, undef, undef, undef, undef, undef, undef, undef, U125 44, U125 45, U125 46, U125 47, U125 48, U125 49, U125 50, U125 51, U125 52, U125 53, U125 54, U125 55, U125 56, U125 57, U125 58, U125 59, U125 60, U125 61, U125 62, U125 63, U125 64, .bool false, (U0 66), (U0 67), (U0 68), (U0 69), (U0 70), (U0 71)]) (by kernel_rfl) (fun U125 => ?_)
                  have x6 := SG.blk s121 x6 (by simp)
                  have x43 := SG.blk s121 x43 (by simp)
                  have c126 := (SG.belowR c52 s121 (fun kq e => by cases e))
                  refine h14 _ _ ?_
                  refine wp_cond_false (by kernel_rfl) ?_
                  refine wp_skip ?_
                  refine h13 _ _ ?_
                  refine wp_seq_k (fun K24 h24 => ?_)
                  refine W.region_plain (row := none) [(0, false), (1, false), (2, false), (3, false), (4, true)] (by kernel_rfl) ?_
                  have s127 := SG.self w120 none
                  refine W.sq (v := .slice A2 n2 c2) rfl (r_move rfl (by kernel_rfl)) (by kernel_rfl) rfl rfl ?_
                  refine W.sq (v := .int .i64 ((K : Nat) : Int)) rfl (r_move rfl (by kernel_rfl)) (by kernel_rfl) rfl rfl ?_
                  refine W.sq (v := .slice A2 K c2) rfl (r_sliceTo (A := A2) (n := n2) (c := c2) (k := K) (size := 4) rfl (by kernel_rfl) (by kernel_rfl) (by kernel_rfl) (by have := (hfm2).le; omega)) (by kernel_rfl) rfl rfl ?_
                  refine W.sq (v := .func (.func 119) #[] #[.pointer (some ⟨b33, 0, none⟩)]) rfl (r_makeFunc (vs := [.pointer (some ⟨b33, 0, none⟩)]) rfl (by kernel_rfl)) (by kernel_rfl) rfl rfl ?_
                  refine W.sc (vs := [.slice A2 K c2, .func (.func 119) #[] #[.pointer (some ⟨b33, 0, none⟩)]]) rfl rfl (by kernel_rfl) (by kernel_rfl) (by kernel_rfl) rfl (anyV_any A2 K c2 (vs.take K) 119 #[.pointer (some ⟨b33, 0, none⟩)] (fun v => decide (v.pipe = x23.pipe) && decide (v.node = x23.node)) _ (Rd.toV (Rd.kept hb (SG.belowR c126 s127 (fun kq e => by cases e))) (by omega)) (by omega) (by kernel_rfl) (fun W v hW => validF_any v x23 b33 W ((hW.block _ (blk_lt x43)).trans x43))) ?_
                  rintro e w129 ⟨rfl, b128⟩
                  have s130 := SG.of_below s127 b128
                  refine ⟨_, rfl, s130, ?_⟩
                  rcases Bool.eq_false_or_eq_true ((vs.take K).any (fun v => decide (v.pipe = x23.pipe) && decide (v.node = x23.node))) with q131 | q131
                  · rw [q131]
                    refine W.sch_endU (fun U132 => [.agg #[.int .i64 m, .slice A n c], .slice A2 n2 c2, .pointer (some ⟨b2, 0, none⟩), undef, .bool false, .int .i64 ((K : Nat) : Int), .pointer (some ⟨b33, 0, none⟩), .int .i64 (findL ps x23.pipe), (U18 8), (U18 9), (U18 10), (U18 11), (U18 12), (U18 13), (U18 14), .bool false, .slice A2 n2 c2, .int .i64 ((n2 : Nat) : Int), .int .i64 ((K : Nat) : Int), .bool true, (U45 20), (U45 21), (U45 22), (U51 23), (U51 24), (U51 25), (U51 26), (U125 27), (U125 28), (U125 29), (U125 30), (U125 31), (U125 32), (U125 33), (U125 34), undef, undef, undef, undef, undef, undef, undef, undef, undef, (U125 44), (U125 45), (U125 46), (U125 47), (U125 48), (U125 49), (U125 50), (U125 51), (U125 52), (U125 53), (U125 54), (U125 55), (U125 56), (U125 57), (U125 58), (U125 59), (U125 60), (U125 61), (U125 62), (U125 63), (U125 64), .bool false, U132 66, U132 67, U132 68, U132 69, .bool true, (U0 71)]) (by kernel_rfl) (fun U132 => ?_)
                    have x6 := SG.blk s130 x6 (by simp)
                    have x43 := SG.blk s130 x43 (by simp)
                    have c133 := (SG.belowR c126 s130 (fun kq e => by cases e))
                    refine h24 _ _ ?_
                    refine wp_cond_true (by kernel_rfl) ?_
                    refine wp_seq_k (fun K25 h25 => ?_)
                    refine W.region_quiet [(0, false)] (by kernel_rfl) ?_
                    refine W.sq (v := .bool false) rfl (r_assign rfl (by kernel_rfl)) (by kernel_rfl) rfl rfl ?_
                    refine W.sch_end (l' := [.agg #[.int .i64 m, .slice A n c], .slice A2 n2 c2, .pointer (some ⟨b2, 0, none⟩), undef, .bool false, .int .i64 ((K : Nat) : Int), .pointer (some ⟨b33, 0, none⟩), .int .i64 (findL ps x23.pipe), (U18 8), (U18 9), (U18 10), (U18 11), (U18 12), (U18 13), (U18 14), .bool false, .slice A2 n2 c2, .int .i64 ((n2 : Nat) : Int), .int .i64 ((K : Nat) : Int), .bool true, (U45 20), (U45 21), (U45 22), (U51 23), (U51 24), (U51 25), (U51 26), (U125 27), (U125 28), (U125 29), (U125 30), (U125 31), (U125 32), (U125 33), (U125 34), undef, undef, undef, undef, undef, undef, undef, undef, undef, (U125 44), (U125 45), (U125 46), (U125 47), (U125 48), (U125 49), (U125 50), (U125 51), (U125 52), (U125 53), (U125 54), (U125 55), (U125 56), (U125 57), (U125 58), (U125 59), (U125 60), (U125 61), (U125 62), (U125 63), (U125 64), .bool false, (U132 66), (U132 67), (U132 68), (U132 69), .bool true, (U0 71)]) (by kernel_rfl) ?_
                    refine h25 _ _ ?_
                    refine wp_ret ?_
                    try simp only [Exit.then, Exit.inBlock]
                    refine ret1 (v := .bool false) rfl (by kernel_rfl) ?_
                    have e8 : okV ps vs (K) = false := Bool.eq_false_iff.2 (fun h9 => by
                      have h8 := (okV_iff hx24).1 h9
                      obtain ⟨⟨hA, hB⟩, hC, hD⟩ := h8
                      obtain ⟨hC0, p9, hp9, hC1⟩ := endAt_pos hC
                      have hg9 := (good_of q14).at hp9
                      have h7 := (other_zero (u := x23.node) hg9.2.1.1 hg9.2.2.1.1)
                      obtain rfl := Option.some.inj (hp9.symm.trans hpz)
                      exact absurd (show placed (vs.take (K)) x23.pipe x23.node = true from q131) (by rw [hD]; simp))
                    exact ⟨ret_bool (goodV_bad (k := K) (by omega) e8).symm, c133⟩
                  · rw [q131]
                    refine W.sch_endU (fun U134 => [.agg #[.int .i64 m, .slice A n c], .slice A2 n2 c2, .pointer (some ⟨b2, 0, none⟩), undef, .bool false, .int .i64 ((K : Nat) : Int), .pointer (some ⟨b33, 0, none⟩), .int .i64 (findL ps x23.pipe), (U18 8), (U18 9), (U18 10), (U18 11), (U18 12), (U18 13), (U18 14), .bool false, .slice A2 n2 c2, .int .i64 ((n2 : Nat) : Int), .int .i64 ((K : Nat) : Int), .bool true, (U45 20), (U45 21), (U45 22), (U51 23), (U51 24), (U51 25), (U51 26), (U125 27), (U125 28), (U125 29), (U125 30), (U125 31), (U125 32), (U125 33), (U125 34), undef, undef, undef, undef, undef, undef, undef, undef, undef, (U125 44), (U125 45), (U125 46), (U125 47), (U125 48), (U125 49), (U125 50), (U125 51), (U125 52), (U125 53), (U125 54), (U125 55), (U125 56), (U125 57), (U125 58), (U125 59), (U125 60), (U125 61), (U125 62), (U125 63), (U125 64), .bool false, U134 66, U134 67, U134 68, U134 69, .bool false, (U0 71)]) (by kernel_rfl) (fun U134 => ?_)
                    have x6 := SG.blk s130 x6 (by simp)
                    have x43 := SG.blk s130 x43 (by simp)
                    have c135 := (SG.belowR c126 s130 (fun kq e => by cases e))
                    refine h24 _ _ ?_
                    refine wp_cond_false (by kernel_rfl) ?_
                    refine wp_skip ?_
                    refine h10 _ _ ?_
                    refine W.region_quiet [(0, false), (1, false)] (by kernel_rfl) ?_
                    refine W.sq (v := .int .i64 ((K + 1 : Nat) : Int)) rfl (r_add (m := ((K : Nat) : Int)) (n := 1) (z := ((K + 1 : Nat) : Int)) rfl (by kernel_rfl) (by kernel_rfl) (by omega) (by omega)) (by kernel_rfl) rfl rfl ?_
                    refine W.sq (v := .int .i64 ((K + 1 : Nat) : Int)) rfl (r_move rfl (by kernel_rfl)) (by kernel_rfl) rfl rfl ?_
                    refine W.sch_endU (fun U136 => [.agg #[.int .i64 m, .slice A n c], .slice A2 n2 c2, .pointer (some ⟨b2, 0, none⟩), undef, .bool false, .int .i64 ((K : Nat) : Int), .pointer (some ⟨b33, 0, none⟩), .int .i64 (findL ps x23.pipe), (U18 8), (U18 9), (U18 10), (U18 11), (U18 12), (U18 13), (U18 14), .bool false, .slice A2 n2 c2, .int .i64 ((n2 : Nat) : Int), .int .i64 ((K + 1 : Nat) : Int), .bool true, (U45 20), (U45 21), (U45 22), (U51 23), (U51 24), (U51 25), (U51 26), (U125 27), (U125 28), (U125 29), (U125 30), (U125 31), (U125 32), (U125 33), (U125 34), undef, undef, undef, undef, undef, undef, undef, undef, undef, (U125 44), (U125 45), (U125 46), (U125 47), (U125 48), (U125 49), (U125 50), (U125 51), (U125 52), (U125 53), (U125 54), (U125 55), (U125 56), (U125 57), (U125 58), (U125 59), (U125 60), (U125 61), (U125 62), (U125 63), (U125 64), .bool false, (U134 66), (U134 67), (U134 68), (U134 69), .bool false, U136 71]) (by kernel_rfl) (fun U136 => ?_)
                    exact h7 _ _ _ (by omega : (n2 - (K + 1)) < _) ⟨K + 1, (fun iU9 => [.agg #[.int .i64 m, .slice A n c], .slice A2 n2 c2, .pointer (some ⟨b2, 0, none⟩), undef, .bool false, .int .i64 ((K : Nat) : Int), .pointer (some ⟨b33, 0, none⟩), .int .i64 (findL ps x23.pipe), (U18 8), (U18 9), (U18 10), (U18 11), (U18 12), (U18 13), (U18 14), .bool false, .slice A2 n2 c2, .int .i64 ((n2 : Nat) : Int), .int .i64 ((K + 1 : Nat) : Int), .bool true, (U45 20), (U45 21), (U45 22), (U51 23), (U51 24), (U51 25), (U51 26), (U125 27), (U125 28), (U125 29), (U125 30), (U125 31), (U125 32), (U125 33), (U125 34), undef, undef, undef, undef, undef, undef, undef, undef, undef, (U125 44), (U125 45), (U125 46), (U125 47), (U125 48), (U125 49), (U125 50), (U125 51), (U125 52), (U125 53), (U125 54), (U125 55), (U125 56), (U125 57), (U125 58), (U125 59), (U125 60), (U125 61), (U125 62), (U125 63), (U125 64), .bool false, (U134 66), (U134 67), (U134 68), (U134 69), .bool false, (U136 71)].getD iU9 undef), (by kernel_rfl), rfl, (by omega), (okVTo_next hok ((okV_iff hx24).2 ⟨⟨inB_iff.1 q58, (by have e0 : K = 0 := (by omega); subst e0; exact above_zero)⟩, endAt_of (by omega) hpz (by have h9 := (other_zero (u := x23.node) hgz.2.1.1 hgz.2.2.1.1); omega), q131⟩)), x6, c135⟩
        · rw [q58]
          refine W.sq (v := .bool true) rfl (r_not (b := false) rfl (by kernel_rfl) rfl) (by kernel_rfl) rfl rfl ?_
          refine W.sq (v := .bool true) rfl (r_move rfl (by kernel_rfl)) (by kernel_rfl) rfl rfl ?_
          refine W.sk s55 rfl (by kernel_rfl) rfl rfl ?_
          refine W.sk s55 rfl (by kernel_rfl) rfl rfl ?_
          refine W.sk s55 rfl (by kernel_rfl) rfl rfl ?_
          refine W.sk s55 rfl (by kernel_rfl) rfl rfl ?_
          refine W.sk s55 rfl (by kernel_rfl) rfl rfl ?_
          refine W.sk s55 rfl (by kernel_rfl) rfl rfl ?_
          refine W.sk s55 rfl (by kernel_rfl) rfl rfl ?_
          refine W.sk s55 rfl (by kernel_rfl) rfl rfl ?_
          refine W.sk s55 rfl (by kernel_rfl) rfl rfl ?_
          refine W.sk s55 rfl (by kernel_rfl) rfl rfl ?_
          refine W.sk s55 rfl (by kernel_rfl) rfl rfl ?_
          refine W.sk s55 rfl (by kernel_rfl) rfl rfl ?_
          refine W.sk s55 rfl (by kernel_rfl) rfl rfl ?_
          refine W.sq (v := .bool true) rfl (r_pick (b := true) rfl (by kernel_rfl) (by kernel_rfl)) (by kernel_rfl) rfl rfl ?_
          refine W.sq (v := .bool true) rfl (r_move rfl (by kernel_rfl)) (by kernel_rfl) rfl rfl ?_
          refine W.sk s55 rfl (by kernel_rfl) rfl rfl ?_
          refine W.sk s55 rfl (by kernel_rfl) rfl rfl ?_
          refine W.sq (v := .bool true) rfl (r_pick (b := true) rfl (by kernel_rfl) (by kernel_rfl)) (by kernel_rfl) rfl rfl ?_
          refine W.sq (v := .bool true) rfl (r_move rfl (by kernel_rfl)) (by kernel_rfl) rfl rfl ?_
          refine W.sk s55 rfl (by kernel_rfl) rfl rfl ?_
          refine W.sk s55 rfl (by kernel_rfl) rfl rfl ?_
          refine W.sk s55 rfl (by kernel_rfl) rfl rfl ?_
          refine W.sq (v := .bool true) rfl (r_pick (b := true) rfl (by kernel_rfl) (by kernel_rfl)) (by kernel_rfl) rfl rfl ?_
          refine W.sq (v := .bool true) rfl (r_move rfl (by kernel_rfl)) (by kernel_rfl) rfl rfl ?_
          refine W.sk s55 rfl (by kernel_rfl) rfl rfl ?_
          refine W.sk s55 rfl (by kernel_rfl) rfl rfl ?_
          refine W.sk s55 rfl (by kernel_rfl) rfl rfl ?_
          refine W.sk s55 rfl (by kernel_rfl) rfl rfl ?_
          refine W.sk s55 rfl (by kernel_rfl) rfl rfl ?_
          refine W.sk s55 rfl (by kernel_rfl) rfl rfl ?_
          refine W.sk s55 rfl (by kernel_rfl) rfl rfl ?_
          refine W.sk s55 rfl (by kernel_rfl) rfl rfl ?_
          refine W.sk s55 rfl (by kernel_rfl) rfl rfl ?_
          refine W.sq (v := .bool true) rfl (r_pick (b := true) rfl (by kernel_rfl) (by kernel_rfl)) (by kernel_rfl) rfl rfl ?_
          refine W.sch_endU (fun U137 => [.agg #[.int .i64 m, .slice A n c], .slice A2 n2 c2, .pointer (some ⟨b2, 0, none⟩), undef, .bool false, .int .i64 ((K : Nat) : Int), .pointer (some ⟨b33, 0, none⟩), .int .i64 (findL ps x23.pipe), (U18 8), (U18 9), (U18 10), (U18 11), (U18 12), (U18 13), (U18 14), .bool false, .slice A2 n2 c2, .int .i64 ((n2 : Nat) : Int), .int .i64 ((K : Nat) : Int), .bool true, (U45 20), (U45 21), (U45 22), (U51 23), (U51 24), (U51 25), (U51 26), U137 27, U137 28, U137 29, U137 30, U137 31, undef, undef, undef, undef, undef, undef, undef, undef, undef, undef, undef, undef, undef, U137 45, U137 46, undef, undef, U137 49, U137 50, undef, undef, undef, U137 54, U137 55, undef, undef, undef, undef, undef, undef, undef, undef, undef, .bool true, (U0 66), (U0 67), (U0 68), (U0 69), (U0 70), (U0 71)]) (by kernel_rfl) (fun U137 => ?_)
          have x6 := SG.blk s55 x6 (by simp)
          have x43 := SG.blk s55 x43 (by simp)
          have c138 := (SG.belowR c52 s55 (fun kq e => by cases e))
          refine h14 _ _ ?_
          refine wp_cond_true (by kernel_rfl) ?_
          refine wp_seq_k (fun K26 h26 => ?_)
          refine W.region_quiet [(0, false)] (by kernel_rfl) ?_
          refine W.sq (v := .bool false) rfl (r_assign rfl (by kernel_rfl)) (by kernel_rfl) rfl rfl ?_
          refine W.sch_end (l' := [.agg #[.int .i64 m, .slice A n c], .slice A2 n2 c2, .pointer (some ⟨b2, 0, none⟩), undef, .bool false, .int .i64 ((K : Nat) : Int), .pointer (some ⟨b33, 0, none⟩), .int .i64 (findL ps x23.pipe), (U18 8), (U18 9), (U18 10), (U18 11), (U18 12), (U18 13), (U18 14), .bool false, .slice A2 n2 c2, .int .i64 ((n2 : Nat) : Int), .int .i64 ((K : Nat) : Int), .bool true, (U45 20), (U45 21), (U45 22), (U51 23), (U51 24), (U51 25), (U51 26), (U137 27), (U137 28), (U137 29), (U137 30), (U137 31), undef, undef, undef, undef, undef, undef, undef, undef, undef, undef, undef, undef, undef, (U137 45), (U137 46), undef, undef, (U137 49), (U137 50), undef, undef, undef, (U137 54), (U137 55), undef, undef, undef, undef, undef, undef, undef, undef, undef, .bool true, (U0 66), (U0 67), (U0 68), (U0 69), (U0 70), (U0 71)]) (by kernel_rfl) ?_
          refine h26 _ _ ?_
          refine wp_ret ?_
          try simp only [Exit.then, Exit.inBlock]
          refine ret1 (v := .bool false) rfl (by kernel_rfl) ?_
          have e8 : okV ps vs (K) = false := Bool.eq_false_iff.2 (fun h9 => by
            have h8 := (okV_iff hx24).1 h9
            obtain ⟨⟨hA, hB⟩, hC, hD⟩ := h8
            obtain ⟨hC0, p9, hp9, hC1⟩ := endAt_pos hC
            have hg9 := (good_of q14).at hp9
            have h7 := (other_zero (u := x23.node) hg9.2.1.1 hg9.2.2.1.1)
            first | omega | (rw [inB_iff.2 hA] at q58; cases q58))
          exact ⟨ret_bool (goodV_bad (k := K) (by omega) e8).symm, c138⟩
      · refine W.sq (v := .bool false) rfl (r_lss (m := ((K : Nat) : Int)) (n := ((n2 : Nat) : Int)) rfl (by kernel_rfl) (by kernel_rfl) (decide_eq_false q21)) (by kernel_rfl) rfl rfl ?_
        refine W.sch_end (l' := [.agg #[.int .i64 m, .slice A n c], .slice A2 n2 c2, .pointer (some ⟨b2, 0, none⟩), undef, .bool false, (U0 5), (U0 6), (U0 7), (U18 8), (U18 9), (U18 10), (U18 11), (U18 12), (U18 13), (U18 14), .bool false, .slice A2 n2 c2, .int .i64 ((n2 : Nat) : Int), .int .i64 ((K : Nat) : Int), .bool false, (U0 20), (U0 21), (U0 22), (U0 23), (U0 24), (U0 25), (U0 26), (U0 27), (U0 28), (U0 29), (U0 30), (U0 31), (U0 32), (U0 33), (U0 34), (U0 35), (U0 36), (U0 37), (U0 38), (U0 39), (U0 40), (U0 41), (U0 42), (U0 43), (U0 44), (U0 45), (U0 46), (U0 47), (U0 48), (U0 49), (U0 50), (U0 51), (U0 52), (U0 53), (U0 54), (U0 55), (U0 56), (U0 57), (U0 58), (U0 59), (U0 60), (U0 61), (U0 62), (U0 63), (U0 64), (U0 65), (U0 66), (U0 67), (U0 68), (U0 69), (U0 70), (U0 71)]) (by kernel_rfl) ?_
        refine h8 _ _ ?_
        refine wp_seq_k (fun K27 h27 => ?_)
        refine wp_cond_false (by kernel_rfl) ?_
        refine wp_exit ?_
        refine h5 _ _ ?_
        refine wp_seq_k (fun K28 h28 => ?_)
        refine W.region_quiet [(0, false)] (by kernel_rfl) ?_
        refine W.sq (v := .bool true) rfl (r_assign rfl (by kernel_rfl)) (by kernel_rfl) rfl rfl ?_
        refine W.sch_end (l' := [.agg #[.int .i64 m, .slice A n c], .slice A2 n2 c2, .pointer (some ⟨b2, 0, none⟩), undef, .bool true, (U0 5), (U0 6), (U0 7), (U18 8), (U18 9), (U18 10), (U18 11), (U18 12), (U18 13), (U18 14), .bool false, .slice A2 n2 c2, .int .i64 ((n2 : Nat) : Int), .int .i64 ((K : Nat) : Int), .bool false, (U0 20), (U0 21), (U0 22), (U0 23), (U0 24), (U0 25), (U0 26), (U0 27), (U0 28), (U0 29), (U0 30), (U0 31), (U0 32), (U0 33), (U0 34), (U0 35), (U0 36), (U0 37), (U0 38), (U0 39), (U0 40), (U0 41), (U0 42), (U0 43), (U0 44), (U0 45), (U0 46), (U0 47), (U0 48), (U0 49), (U0 50), (U0 51), (U0 52), (U0 53), (U0 54), (U0 55), (U0 56), (U0 57), (U0 58), (U0 59), (U0 60), (U0 61), (U0 62), (U0 63), (U0 64), (U0 65), (U0 66), (U0 67), (U0 68), (U0 69), (U0 70), (U0 71)]) (by kernel_rfl) ?_
        refine h28 _ _ ?_
        refine wp_ret ?_
        try simp only [Exit.then]
        refine ret1 (v := .bool true) rfl (by kernel_rfl) ?_
        exact ⟨ret_bool (goodV_fin q14 (by omega) (by rw [show vs.length = K by omega]; exact hok)).symm, c20⟩
  · rw [q14]
    refine W.sq (v := .bool true) rfl (r_not (b := false) rfl (by kernel_rfl) rfl) (by kernel_rfl) rfl rfl ?_
    refine W.sq (v := .bool true) rfl (r_move rfl (by kernel_rfl)) (by kernel_rfl) rfl rfl ?_
    refine W.sk s13 rfl (by kernel_rfl) rfl rfl ?_
    refine W.sk s13 rfl (by kernel_rfl) rfl rfl ?_
    refine W.sk s13 rfl (by kernel_rfl) rfl rfl ?_
    refine W.sq (v := .bool true) rfl (r_pick (b := true) rfl (by kernel_rfl) (by kernel_rfl)) (by kernel_rfl) rfl rfl ?_
    refine W.sch_endU (fun U139 => [.agg #[.int .i64 m, .slice A n c], .slice A2 n2 c2, .pointer (some ⟨b2, 0, none⟩), undef, .bool false, undef, undef, undef, U139 8, U139 9, U139 10, U139 11, undef, undef, undef, .bool true, undef, undef, undef, undef, undef, undef, undef, undef, undef, undef, undef, undef, undef, undef, undef, undef, undef, undef, undef, undef, undef, undef, undef, undef, undef, undef, undef, undef, undef, undef, undef, undef, undef, undef, undef, undef, undef, undef, undef, undef, undef, undef, undef, undef, undef, undef, undef, undef, undef, undef, undef, undef, undef, undef, undef, undef]) (by kernel_rfl) (fun U139 => ?_)
    have x6 := SG.blk s13 x6 (by simp)
    have c140 := (SG.belowR c9 s13 (fun kq e => by cases e))
    refine h3 _ _ ?_
    refine wp_cond_true (by kernel_rfl) ?_
    refine wp_seq_k (fun K29 h29 => ?_)
    refine W.region_quiet [(0, false)] (by kernel_rfl) ?_
    refine W.sq (v := .bool false) rfl (r_assign rfl (by kernel_rfl)) (by kernel_rfl) rfl rfl ?_
    refine W.sch_end (l' := [.agg #[.int .i64 m, .slice A n c], .slice A2 n2 c2, .pointer (some ⟨b2, 0, none⟩), undef, .bool false, undef, undef, undef, (U139 8), (U139 9), (U139 10), (U139 11), undef, undef, undef, .bool true, undef, undef, undef, undef, undef, undef, undef, undef, undef, undef, undef, undef, undef, undef, undef, undef, undef, undef, undef, undef, undef, undef, undef, undef, undef, undef, undef, undef, undef, undef, undef, undef, undef, undef, undef, undef, undef, undef, undef, undef, undef, undef, undef, undef, undef, undef, undef, undef, undef, undef, undef, undef, undef, undef, undef, undef]) (by kernel_rfl) ?_
    refine h29 _ _ ?_
    refine wp_ret ?_
    try simp only [Exit.then]
    refine ret1 (v := .bool false) rfl (by kernel_rfl) ?_
    exact ⟨ret_bool (goodV_out (.inl q14)).symm, c140⟩

end Go.Proofs.Ytnfmdkbelbppdaa
