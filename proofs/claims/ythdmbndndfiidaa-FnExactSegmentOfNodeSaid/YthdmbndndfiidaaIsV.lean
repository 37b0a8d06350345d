/- Valid valves: the program's test. -/
import Derived.Test.YthdmbndndfiidaaValL
namespace Go.Proofs.Ythdmbndndfiidaa
open Go.RowKit
set_option linter.unusedVariables false
set_option linter.unusedSimpArgs false

theorem flatV_take {vs : List Vv} : ∀ k, (valvesV vs).take (k * 4) = valvesV (vs.take k) := by
  intro k
  induction vs generalizing k with
  | nil => simp [valvesV]
  | cons p ps ih =>
    cases k with
    | zero => simp [valvesV]
    | succ k => simp only [valvesV, List.flatMap_cons, List.take_succ_cons] at ih ⊢; rw [show (k + 1) * 4 = k * 4 + 4 by omega]; simp [Vv.vals, ih]
theorem Rd.toV {w : World} {A : Option Addr} {n k : Nat} {vs : List Vv} (h : Rd w 4 A n (valvesV vs)) (hk : k ≤ n) : Rd w 4 A k (valvesV (vs.take k)) := by
  have := h.to hk; rwa [flatV_take] at this
theorem other_zero {p : Pp} {u : Int} (h1 : 1 ≤ p.fr) (h2 : 1 ≤ p.to) : otherOf p u = 0 ↔ ¬ (p.fr = u ∨ p.to = u) := by
  rw [← other_pos h1 h2]
  unfold otherOf
  split
  · omega
  · split <;> omega

set_option maxRecDepth 100000 in
set_option maxHeartbeats 1000000 in
theorem IsValidValves_any (m : Int) (A : Option Addr) (n c : Nat) (ps : List Pp) (A2 : Option Addr) (n2 c2 : Nat) (vs : List Vv) (w : World) (ha : Rd w 4 A n (pipesV ps)) (hb : Rd w 4 A2 n2 (valvesV vs)) (hn : n ≤ 1048576) (hn2 : n2 ≤ 1048576) (hfm2 : Fm A2 n2 c2) :
    Calls Try.prog 19 #[.agg #[.int .i64 m, .slice A n c], .slice A2 n2 c2] w fun e w' => e = .returned (.bool (goodV m ps vs)) ∧ Below w.heap.size w w' := by
  have hl := rd_pipes_len ha
  have hl2 := rd_valves_len hb
  go_enter Try.func19, Try.ntmps19
  refine wp_seq_k (fun K1 h1 => ?_)
  refine W.region_plain (row := none) [(0, true), (1, false)] (by kernel_rfl) ?_
  have s1 := SG.self w none
  refine W.sn (fun b => .pointer (some ⟨b, 0, none⟩)) #[.int .i64 m, .slice A n c] 31 s1 rfl (by kernel_rfl) rfl (fun _ => by kernel_rfl) (fun b2 w3 hb4 k5 x6 s7 => ?_)
  have lo8 : w.heap.size ≤ b2 := by have := ((SG.belowR (Below.refl _ _) s1 (fun kq e => by cases e))).size; omega
  refine W.sq (v := .bool false) rfl (r_assign rfl (by kernel_rfl)) (by kernel_rfl) rfl rfl ?_
  refine W.sch_end (l' := [.agg #[.int .i64 m, .slice A n c], .slice A2 n2 c2, .pointer (some ⟨b2, 0, none⟩), undef, .bool false, undef, undef, undef, undef, undef, undef, undef, undef, undef, undef, undef, undef, undef, undef, undef, undef, undef, undef, undef, undef, undef, undef, undef, undef, undef, undef, undef, undef, undef, undef, undef, undef, undef, undef, undef, undef, undef, undef, undef, undef, undef, undef, undef, undef, undef, undef, undef, undef, undef, undef, undef, undef, undef, undef, undef, undef, undef, undef, undef, undef, undef, undef, undef, undef, undef, undef, undef]) (by kernel_rfl) ?_
  have c9 := (SG.belowR (Below.refl _ _) s7 (fun kq e => by cases e))
  refine h1 _ _ ?_
  refine wp_seq_k (fun K2 h2 => ?_)
  refine wp_seq_k (fun K3 h3 => ?_)
  refine W.region_plain (row := none) [(0, false), (1, true), (2, false), (3, false), (4, false), (5, false), (6, false), (7, false)] (by kernel_rfl) ?_
  have s10 := SG.self w3 none
  refine W.sq (v := .agg #[.int .i64 m, .slice A n c]) rfl (r_load2 rfl (by kernel_rfl) (by kernel_rfl) (by kernel_rfl) (sgS (blk_cell (j := 0) x6 (by kernel_rfl)) (by simp)) (sgS (blk_cell (j := 1) x6 (by kernel_rfl)) (by simp))) (by kernel_rfl) rfl rfl ?_
  refine W.sc (vs := [.agg #[.int .i64 m, .slice A n c]]) rfl rfl (by kernel_rfl) (by kernel_rfl) (by kernel_rfl) rfl (IsValid_any m A n c ps _ (Rd.kept ha (SG.belowR c9 s10 (fun kq e => by cases e))) (by omega)) ?_
  rintro e w12 ⟨rfl, b11⟩
  have s13 := SG.of_below s10 b11
  refine ⟨_, rfl, s13, ?_⟩
  rcases Bool.eq_false_or_eq_true (goodN m ps) with q14 | q14
  · rw [q14]
    refine W.sq (v := .bool false) rfl (r_not (b := true) rfl (by kernel_rfl) rfl) (by kernel_rfl) rfl rfl ?_
    refine W.sq (v := .bool false) rfl (r_move rfl (by kernel_rfl)) (by kernel_rfl) rfl rfl ?_
    refine W.sq (v := .slice A2 n2 c2) rfl (r_move rfl (by kernel_rfl)) (by kernel_rfl) rfl rfl ?_
    refine W.sq (v := .int .i64 ((n2 : Nat) : Int)) rfl (r_len (A := A2) (n := n2) (c := c2) rfl (by kernel_rfl) (by kernel_rfl)) (by kernel_rfl) rfl rfl ?_
    by_cases q15 : (((n2 : Nat) : Int) : Int) > (10 : Int)
    · refine W.sq (v := .bool true) rfl (r_gtr (m := ((n2 : Nat) : Int)) (n := 10) rfl (by kernel_rfl) (by kernel_rfl) (decide_eq_true q15)) (by kernel_rfl) rfl rfl ?_
      refine W.sq (v := .bool true) rfl (r_pick (b := false) rfl (by kernel_rfl) (by kernel_rfl)) (by kernel_rfl) rfl rfl ?_
      refine W.sch_end (l' := [.agg #[.int .i64 m, .slice A n c], .slice A2 n2 c2, .pointer (some ⟨b2, 0, none⟩), undef, .bool false, undef, undef, undef, .agg #[.int .i64 m, .slice A n c], .bool true, .bool false, .bool false, .slice A2 n2 c2, .int .i64 ((n2 : Nat) : Int), .bool true, .bool true, undef, undef, undef, undef, undef, undef, undef, undef, undef, undef, undef, undef, undef, undef, undef, undef, undef, undef, undef, undef, undef, undef, undef, undef, undef, undef, undef, undef, undef, undef, undef, undef, undef, undef, undef, undef, undef, undef, undef, undef, undef, undef, undef, undef, undef, undef, undef, undef, undef, undef, undef, undef, undef, undef, undef, undef]) (by kernel_rfl) ?_
      have x6 := SG.blk s13 x6 (by simp)
      have c16 := (SG.belowR c9 s13 (fun kq e => by cases e))
      refine h3 _ _ ?_
      refine wp_cond_true (by kernel_rfl) ?_
      refine wp_seq_k (fun K4 h4 => ?_)
      refine W.region_quiet [(0, false)] (by kernel_rfl) ?_
      refine W.sq (v := .bool false) rfl (r_assign rfl (by kernel_rfl)) (by kernel_rfl) rfl rfl ?_
      refine W.sch_end (l' := [.agg #[.int .i64 m, .slice A n c], .slice A2 n2 c2, .pointer (some ⟨b2, 0, none⟩), undef, .bool false, undef, undef, undef, .agg #[.int .i64 m, .slice A n c], .bool true, .bool false, .bool false, .slice A2 n2 c2, .int .i64 ((n2 : Nat) : Int), .bool true, .bool true, undef, undef, undef, undef, undef, undef, undef, undef, undef, undef, undef, undef, undef, undef, undef, undef, undef, undef, undef, undef, undef, undef, undef, undef, undef, undef, undef, undef, undef, undef, undef, undef, undef, undef, undef, undef, undef, undef, undef, undef, undef, undef, undef, undef, undef, undef, undef, undef, undef, undef, undef, undef, undef, undef, undef, undef]) (by kernel_rfl) ?_
      refine h4 _ _ ?_
      refine wp_ret ?_
      try simp only [Exit.then]
      refine ret1 (v := .bool false) rfl (by kernel_rfl) ?_
      exact ⟨ret_bool (goodV_out (.inr (by omega))).symm, c16⟩
    · refine W.sq (v := .bool false) rfl (r_gtr (m := ((n2 : Nat) : Int)) (n := 10) rfl (by kernel_rfl) (by kernel_rfl) (decide_eq_false q15)) (by kernel_rfl) rfl rfl ?_
      refine W.sq (v := .bool false) rfl (r_pick (b := false) rfl (by kernel_rfl) (by kernel_rfl)) (by kernel_rfl) rfl rfl ?_
      refine W.sch_end (l' := [.agg #[.int .i64 m, .slice A n c], .slice A2 n2 c2, .pointer (some ⟨b2, 0, none⟩), undef, .bool false, undef, undef, undef, .agg #[.int .i64 m, .slice A n c], .bool true, .bool false, .bool false, .slice A2 n2 c2, .int .i64 ((n2 : Nat) : Int), .bool false, .bool false, undef, undef, undef, undef, undef, undef, undef, undef, undef, undef, undef, undef, undef, undef, undef, undef, undef, undef, undef, undef, undef, undef, undef, undef, undef, undef, undef, undef, undef, undef, undef, undef, undef, undef, undef, undef, undef, undef, undef, undef, undef, undef, undef, undef, undef, undef, undef, undef, undef, undef, undef, undef, undef, undef, undef, undef]) (by kernel_rfl) ?_
      have x6 := SG.blk s13 x6 (by simp)
      have c17 := (SG.belowR c9 s13 (fun kq e => by cases e))
      refine h3 _ _ ?_
      refine wp_cond_false (by kernel_rfl) ?_
      refine wp_skip ?_
      refine h2 _ _ ?_
      refine wp_seq_k (fun K5 h5 => ?_)
      refine wp_seq_k (fun K6 h6 => ?_)
      refine W.region_quiet [(0, false), (1, false), (2, false)] (by kernel_rfl) ?_
      refine W.sq (v := .slice A2 n2 c2) rfl (r_move rfl (by kernel_rfl)) (by kernel_rfl) rfl rfl ?_
      refine W.sq (v := .int .i64 ((n2 : Nat) : Int)) rfl (r_len (A := A2) (n := n2) (c := c2) rfl (by kernel_rfl) (by kernel_rfl)) (by kernel_rfl) rfl rfl ?_
      refine W.sq (v := .int .i64 0) rfl (r_move rfl (by kernel_rfl)) (by kernel_rfl) rfl rfl ?_
      refine W.sch_end (l' := [.agg #[.int .i64 m, .slice A n c], .slice A2 n2 c2, .pointer (some ⟨b2, 0, none⟩), undef, .bool false, undef, undef, undef, .agg #[.int .i64 m, .slice A n c], .bool true, .bool false, .bool false, .slice A2 n2 c2, .int .i64 ((n2 : Nat) : Int), .bool false, .bool false, .slice A2 n2 c2, .int .i64 ((n2 : Nat) : Int), .int .i64 0, undef, undef, undef, undef, undef, undef, undef, undef, undef, undef, undef, undef, undef, undef, undef, undef, undef, undef, undef, undef, undef, undef, undef, undef, undef, undef, undef, undef, undef, undef, undef, undef, undef, undef, undef, undef, undef, undef, undef, undef, undef, undef, undef, undef, undef, undef, undef, undef, undef, undef, undef, undef, undef]) (by kernel_rfl) ?_
      refine h6 _ _ ?_
      refine wp_block ?_
      refine loopK (fun am0 aa0 wl0 => ∃ (K : Nat) (U0 : Nat → Value), aa0 = ⟨[.agg #[.int .i64 m, .slice A n c], .slice A2 n2 c2, .pointer (some ⟨b2, 0, none⟩), undef, .bool false, U0 5, U0 6, U0 7, .agg #[.int .i64 m, .slice A n c], .bool true, .bool false, .bool false, .slice A2 n2 c2, .int .i64 ((n2 : Nat) : Int), .bool false, .bool false, .slice A2 n2 c2, .int .i64 ((n2 : Nat) : Int), .int .i64 ((K : Nat) : Int), U0 19, U0 20, U0 21, U0 22, U0 23, U0 24, U0 25, U0 26, U0 27, U0 28, U0 29, U0 30, U0 31, U0 32, U0 33, U0 34, U0 35, U0 36, U0 37, U0 38, U0 39, U0 40, U0 41, U0 42, U0 43, U0 44, U0 45, U0 46, U0 47, U0 48, U0 49, U0 50, U0 51, U0 52, U0 53, U0 54, U0 55, U0 56, U0 57, U0 58, U0 59, U0 60, U0 61, U0 62, U0 63, U0 64, U0 65, U0 66, U0 67, U0 68, U0 69, U0 70, U0 71].toArray, []⟩ ∧ (am0 = n2 - K) ∧ (K ≤ n2) ∧ (okVTo ps vs K = true) ∧ (wl0.heap[b2]? = some (.cells #[.int .i64 m, .slice A n c] 31 (0, 0))) ∧ (Below w.heap.size w wl0)) (n2 - 0) ?_ ?_
      · exact ⟨0, (fun iU9 => [.agg #[.int .i64 m, .slice A n c], .slice A2 n2 c2, .pointer (some ⟨b2, 0, none⟩), undef, .bool false, undef, undef, undef, .agg #[.int .i64 m, .slice A n c], .bool true, .bool false, .bool false, .slice A2 n2 c2, .int .i64 ((n2 : Nat) : Int), .bool false, .bool false, .slice A2 n2 c2, .int .i64 ((n2 : Nat) : Int), .int .i64 0, undef, undef, undef, undef, undef, undef, undef, undef, undef, undef, undef, undef, undef, undef, undef, undef, undef, undef, undef, undef, undef, undef, undef, undef, undef, undef, undef, undef, undef, undef, undef, undef, undef, undef, undef, undef, undef, undef, undef, undef, undef, undef, undef, undef, undef, undef, undef, undef, undef, undef, undef, undef, undef].getD iU9 undef), (by kernel_rfl), rfl, (Nat.zero_le _), rfl, x6, c17⟩
      rintro am0 aa0 wl0 K7 h7 ⟨K, U0, rfl, rfl, hk, hok, x6, c18⟩
      refine wp_seq_k (fun K8 h8 => ?_)
      refine W.region_quiet [(0, false)] (by kernel_rfl) ?_
      by_cases q19 : (((K : Nat) : Int) : Int) < (((n2 : Nat) : Int) : Int)
      · refine W.sq (v := .bool true) rfl (r_lss (m := ((K : Nat) : Int)) (n := ((n2 : Nat) : Int)) rfl (by kernel_rfl) (by kernel_rfl) (decide_eq_true q19)) (by kernel_rfl) rfl rfl ?_
        refine W.sch_end (l' := [.agg #[.int .i64 m, .slice A n c], .slice A2 n2 c2, .pointer (some ⟨b2, 0, none⟩), undef, .bool false, (U0 5), (U0 6), (U0 7), .agg #[.int .i64 m, .slice A n c], .bool true, .bool false, .bool false, .slice A2 n2 c2, .int .i64 ((n2 : Nat) : Int), .bool false, .bool false, .slice A2 n2 c2, .int .i64 ((n2 : Nat) : Int), .int .i64 ((K : Nat) : Int), .bool true, (U0 20), (U0 21), (U0 22), (U0 23), (U0 24), (U0 25), (U0 26), (U0 27), (U0 28), (U0 29), (U0 30), (U0 31), (U0 32), (U0 33), (U0 34), (U0 35), (U0 36), (U0 37), (U0 38), (U0 39), (U0 40), (U0 41), (U0 42), (U0 43), (U0 44), (U0 45), (U0 46), (U0 47), (U0 48), (U0 49), (U0 50), (U0 51), (U0 52), (U0 53), (U0 54), (U0 55), (U0 56), (U0 57), (U0 58), (U0 59), (U0 60), (U0 61), (U0 62), (U0 63), (U0 64), (U0 65), (U0 66), (U0 67), (U0 68), (U0 69), (U0 70), (U0 71)]) (by kernel_rfl) ?_
        refine h8 _ _ ?_
        refine wp_seq_k (fun K9 h9 => ?_)
        refine wp_cond_true (by kernel_rfl) ?_
        refine wp_skip ?_
        refine h9 _ _ ?_
        refine wp_seq_k (fun K10 h10 => ?_)
        refine wp_block ?_
        refine wp_seq_k (fun K11 h11 => ?_)
        refine W.region_plain (row := none) [(0, false), (1, false), (2, false), (3, true), (4, false), (5, true)] (by kernel_rfl) ?_
        have s20 := SG.self wl0 none
        refine W.sq (v := .int .i64 ((K : Nat) : Int)) rfl (r_move rfl (by kernel_rfl)) (by kernel_rfl) rfl rfl ?_
        obtain ⟨x21, hx22⟩ := get_of (zs := vs) (k := K) (by have := hl2; omega)
        obtain ⟨b23, o24, hA25, hb26, hc27, hc28, hc29, hc30⟩ := Rd.elValve hb hx22
        refine W.sq (v := .pointer (some ⟨b23, o24 + K * 4, none⟩)) rfl (r_idx (n := n2) (c := c2) (k := K) rfl (by kernel_rfl) hA25 (by kernel_rfl) (by kernel_rfl) (by have := hl2; omega)) (by kernel_rfl) rfl rfl ?_
        refine W.sq (v := .agg #[.int .i64 x21.id, .int .i64 x21.pipe, .int .i64 x21.node, .bool x21.shut]) rfl (r_load4 rfl (by kernel_rfl) (by kernel_rfl) (by kernel_rfl) (sgS (later c18 hc27) (by simp)) (sgS (later c18 hc28) (by simp)) (sgS (later c18 hc29) (by simp)) (sgS (later c18 hc30) (by simp))) (by kernel_rfl) rfl rfl ?_
        refine W.sn (fun b => .pointer (some ⟨b, 0, none⟩)) #[.int .i64 0, .int .i64 0, .int .i64 0, .bool false] 59 s20 rfl (by kernel_rfl) rfl (fun _ => by kernel_rfl) (fun b31 w32 hb33 k34 x35 s36 => ?_)
        have lo37 : w.heap.size ≤ b31 := by have := ((SG.belowR c18 s20 (fun kq e => by cases e))).size; omega
        have ne38 : b2 ≠ b31 := by have := blk_lt x6; have := World.grownBy.size s20; omega
        refine W.sq (v := .int .i64 ((K : Nat) : Int)) rfl (r_assign rfl (by kernel_rfl)) (by kernel_rfl) rfl rfl ?_
        refine W.ss (v := .agg #[.int .i64 x21.id, .int .i64 x21.pipe, .int .i64 x21.node, .bool x21.shut]) (j := 0) (news := [.int .i64 x21.id, .int .i64 x21.pipe, .int .i64 x21.node, .bool x21.shut]) (cs' := #[.int .i64 x21.id, .int .i64 x21.pipe, .int .i64 x21.node, .bool x21.shut]) s36 rfl (by kernel_rfl) rfl rfl (by kernel_rfl) (by kernel_rfl) x35 (by kernel_rfl) (by kernel_rfl) (by simp) (by kernel_rfl) (by kernel_rfl) (.inr (by have := World.grownBy.size s20; have := hb33; omega)) (fun w39 g40 x41 s42 => ?_)
        refine W.sch_end (l' := [.agg #[.int .i64 m, .slice A n c], .slice A2 n2 c2, .pointer (some ⟨b2, 0, none⟩), undef, .bool false, .int .i64 ((K : Nat) : Int), .pointer (some ⟨b31, 0, none⟩), (U0 7), .agg #[.int .i64 m, .slice A n c], .bool true, .bool false, .bool false, .slice A2 n2 c2, .int .i64 ((n2 : Nat) : Int), .bool false, .bool false, .slice A2 n2 c2, .int .i64 ((n2 : Nat) : Int), .int .i64 ((K : Nat) : Int), .bool true, .int .i64 ((K : Nat) : Int), .pointer (some ⟨b23, o24 + K * 4, none⟩), .agg #[.int .i64 x21.id, .int .i64 x21.pipe, .int .i64 x21.node, .bool x21.shut], (U0 23), (U0 24), (U0 25), (U0 26), (U0 27), (U0 28), (U0 29), (U0 30), (U0 31), (U0 32), (U0 33), (U0 34), (U0 35), (U0 36), (U0 37), (U0 38), (U0 39), (U0 40), (U0 41), (U0 42), (U0 43), (U0 44), (U0 45), (U0 46), (U0 47), (U0 48), (U0 49), (U0 50), (U0 51), (U0 52), (U0 53), (U0 54), (U0 55), (U0 56), (U0 57), (U0 58), (U0 59), (U0 60), (U0 61), (U0 62), (U0 63), (U0 64), (U0 65), (U0 66), (U0 67), (U0 68), (U0 69), (U0 70), (U0 71)]) (by kernel_rfl) ?_
        have x6 := SG.blk s42 x6 (by simp)
        have c43 := (SG.belowR c18 s42 (fun kq e => by cases e))
        refine h11 _ _ ?_
        refine wp_seq_k (fun K12 h12 => ?_)
        refine W.region_plain (row := none) [(0, false), (1, false), (2, false), (3, true), (4, false)] (by kernel_rfl) ?_
        have s44 := SG.self w39 none
        refine W.sq (v := .agg #[.int .i64 m, .slice A n c]) rfl (r_load2 rfl (by kernel_rfl) (by kernel_rfl) (by kernel_rfl) (sgS (blk_cell (j := 0) x6 (by kernel_rfl)) (by simp)) (sgS (blk_cell (j := 1) x6 (by kernel_rfl)) (by simp))) (by kernel_rfl) rfl rfl ?_
        refine W.sq (v := .pointer (some ⟨b31, 1, none⟩)) rfl (r_field (k := 1) rfl (by kernel_rfl) (by kernel_rfl)) (by kernel_rfl) rfl rfl ?_
        refine W.sq (v := .int .i64 x21.pipe) rfl (r_load rfl (by kernel_rfl) (by kernel_rfl) (sgS (blk_cell (j := 1) x41 (by kernel_rfl)) (by simp))) (by kernel_rfl) rfl rfl ?_
        refine W.sc (vs := [.agg #[.int .i64 m, .slice A n c], .int .i64 x21.pipe]) rfl rfl (by kernel_rfl) (by kernel_rfl) (by kernel_rfl) rfl (pipeIndex_any m A n c ps x21.pipe _ (Rd.kept ha (SG.belowR c43 s44 (fun kq e => by cases e))) (by omega)) ?_
        rintro e w46 ⟨rfl, b45⟩
        have s47 := SG.of_below s44 b45
        refine ⟨_, rfl, s47, ?_⟩
        refine W.sq (v := .int .i64 (findL ps x21.pipe)) rfl (r_assign rfl (by kernel_rfl)) (by kernel_rfl) rfl rfl ?_
        refine W.sch_end (l' := [.agg #[.int .i64 m, .slice A n c], .slice A2 n2 c2, .pointer (some ⟨b2, 0, none⟩), undef, .bool false, .int .i64 ((K : Nat) : Int), .pointer (some ⟨b31, 0, none⟩), .int .i64 (findL ps x21.pipe), .agg #[.int .i64 m, .slice A n c], .bool true, .bool false, .bool false, .slice A2 n2 c2, .int .i64 ((n2 : Nat) : Int), .bool false, .bool false, .slice A2 n2 c2, .int .i64 ((n2 : Nat) : Int), .int .i64 ((K : Nat) : Int), .bool true, .int .i64 ((K : Nat) : Int), .pointer (some ⟨b23, o24 + K * 4, none⟩), .agg #[.int .i64 x21.id, .int .i64 x21.pipe, .int .i64 x21.node, .bool x21.shut], .agg #[.int .i64 m, .slice A n c], .pointer (some ⟨b31, 1, none⟩), .int .i64 x21.pipe, .int .i64 (findL ps x21.pipe), (U0 27), (U0 28), (U0 29), (U0 30), (U0 31), (U0 32), (U0 33), (U0 34), (U0 35), (U0 36), (U0 37), (U0 38), (U0 39), (U0 40), (U0 41), (U0 42), (U0 43), (U0 44), (U0 45), (U0 46), (U0 47), (U0 48), (U0 49), (U0 50), (U0 51), (U0 52), (U0 53), (U0 54), (U0 55), (U0 56), (U0 57), (U0 58), (U0 59), (U0 60), (U0 61), (U0 62), (U0 63), (U0 64), (U0 65), (U0 66), (U0 67), (U0 68), (U0 69), (U0 70), (U0 71)]) (by kernel_rfl) ?_
        have x6 := SG.blk s47 x6 (by simp)
        have x41 := SG.blk s47 x41 (by simp)
        have c48 := (SG.belowR c43 s47 (fun kq e => by cases e))
        refine h12 _ _ ?_
        refine wp_seq_k (fun K13 h13 => ?_)
        refine wp_seq_k (fun K14 h14 => ?_)
        refine W.region_sch (row := none) (Sch.of [(0, false), (1, false), (2, true), (3, false), (4, false), (5, false), (6, false), (7, false), (8, false), (9, false), (10, false), (11, false), (12, false), (13, false), (14, false), (15, false), (16, false), (17, false), (18, false), (19, false), (20, false), (21, false), (22, false), (23, false), (24, false), (25, false), (26, false), (27, false), (28, false), (29, false), (30, false), (31, false), (32, false), (33, false), (34, false), (35, false), (36, true), (37, false), (38, false)]) (by kernel_rfl) (by kernel_rfl) (fun _ d _ _ _ h => by cases d <;> exact h) (by kernel_rfl) (fun w49 e50 s51 => ?_)
        refine W.sq (v := .pointer (some ⟨b31, 0, none⟩)) rfl (r_field0 rfl (by kernel_rfl) (by kernel_rfl)) (by kernel_rfl) rfl rfl ?_
        refine W.sq (v := .int .i64 x21.id) rfl (r_load rfl (by kernel_rfl) (by kernel_rfl) (sgS (blk_cell (j := 0) x41 (by kernel_rfl)) (by simp))) (by kernel_rfl) rfl rfl ?_
        refine W.sc (vs := [.int .i64 x21.id, .int .i64 1, .int .i64 99]) rfl rfl (by kernel_rfl) (by kernel_rfl) (by kernel_rfl) rfl (inside_any x21.id 1 99 _) ?_
        rintro e w' ⟨rfl, rfl⟩
        refine ⟨_, rfl, s51, ?_⟩
        rcases Bool.eq_false_or_eq_true (inB x21.id 1 99) with q54 | q54
        · rw [q54]
          refine W.sq (v := .bool false) rfl (r_not (b := true) rfl (by kernel_rfl) rfl) (by kernel_rfl) rfl rfl ?_
          refine W.sq (v := .bool false) rfl (r_move rfl (by kernel_rfl)) (by kernel_rfl) rfl rfl ?_
          refine W.sq (v := .int .i64 ((K : Nat) : Int)) rfl (r_move rfl (by kernel_rfl)) (by kernel_rfl) rfl rfl ?_
          by_cases q55 : (((K : Nat) : Int) : Int) > (0 : Int)
          · obtain ⟨k, rfl⟩ : ∃ k, K = k + 1 := ⟨K - 1, by omega⟩
            refine W.sq (v := .bool true) rfl (r_gtr (m := (((k + 1) : Nat) : Int)) (n := 0) rfl (by kernel_rfl) (by kernel_rfl) (decide_eq_true q55)) (by kernel_rfl) rfl rfl ?_
            refine W.sq (v := .bool true) rfl (r_move rfl (by kernel_rfl)) (by kernel_rfl) rfl rfl ?_
            refine W.sq (v := .slice A2 n2 c2) rfl (r_move rfl (by kernel_rfl)) (by kernel_rfl) rfl rfl ?_
            refine W.sq (v := .int .i64 (((k + 1) : Nat) : Int)) rfl (r_move rfl (by kernel_rfl)) (by kernel_rfl) rfl rfl ?_
            refine W.sq (v := .int .i64 ((k : Nat) : Int)) rfl (r_sub (m := (((k + 1) : Nat) : Int)) (n := 1) (z := ((k : Nat) : Int)) rfl (by kernel_rfl) (by kernel_rfl) (by omega) (by omega)) (by kernel_rfl) rfl rfl ?_
            obtain ⟨x56, hx57⟩ := get_of (zs := vs) (k := k) (by have := hl2; omega)
            obtain ⟨b58, o59, hA60, hb61, hc62, hc63, hc64, hc65⟩ := Rd.elValve hb hx57
            refine W.sq (v := .pointer (some ⟨b58, o59 + k * 4, none⟩)) rfl (r_idx (n := n2) (c := c2) (k := k) rfl (by kernel_rfl) hA60 (by kernel_rfl) (by kernel_rfl) (by have := hl2; omega)) (by kernel_rfl) rfl rfl ?_
            refine W.sq (v := .pointer (some ⟨b58, o59 + k * 4, none⟩)) rfl (r_field0 rfl (by kernel_rfl) (by kernel_rfl)) (by kernel_rfl) rfl rfl ?_
            refine W.sq (v := .int .i64 x56.id) rfl (r_load rfl (by kernel_rfl) (by kernel_rfl) (sgS (later c48 hc62) (by simp))) (by kernel_rfl) rfl rfl ?_
            refine W.sq (v := .pointer (some ⟨b31, 0, none⟩)) rfl (r_field0 rfl (by kernel_rfl) (by kernel_rfl)) (by kernel_rfl) rfl rfl ?_
            refine W.sq (v := .int .i64 x21.id) rfl (r_load rfl (by kernel_rfl) (by kernel_rfl) (sgS (blk_cell (j := 0) x41 (by kernel_rfl)) (by simp))) (by kernel_rfl) rfl rfl ?_
            by_cases q66 : (x56.id : Int) ≥ (x21.id : Int)
            · refine W.sq (v := .bool true) rfl (r_geq (m := x56.id) (n := x21.id) rfl (by kernel_rfl) (by kernel_rfl) (decide_eq_true q66)) (by kernel_rfl) rfl rfl ?_
              refine W.sq (v := .bool true) rfl (r_pick (b := true) rfl (by kernel_rfl) (by kernel_rfl)) (by kernel_rfl) rfl rfl ?_
              refine W.sq (v := .bool true) rfl (r_pick (b := false) rfl (by kernel_rfl) (by kernel_rfl)) (by kernel_rfl) rfl rfl ?_
              refine W.sq (v := .bool true) rfl (r_move rfl (by kernel_rfl)) (by kernel_rfl) rfl rfl ?_
              refine W.sk s51 rfl (by kernel_rfl) rfl rfl ?_
              refine W.sk s51 rfl (by kernel_rfl) rfl rfl ?_
              refine W.sq (v := .bool true) rfl (r_pick (b := true) rfl (by kernel_rfl) (by kernel_rfl)) (by kernel_rfl) rfl rfl ?_
              refine W.sq (v := .bool true) rfl (r_move rfl (by kernel_rfl)) (by kernel_rfl) rfl rfl ?_
              refine W.sk s51 rfl (by kernel_rfl) rfl rfl ?_
              refine W.sk s51 rfl (by kernel_rfl) rfl rfl ?_
              refine W.sk s51 rfl (by kernel_rfl) rfl rfl ?_
              refine W.sq (v := .bool true) rfl (r_pick (b := true) rfl (by kernel_rfl) (by kernel_rfl)) (by kernel_rfl) rfl rfl ?_
              refine W.sq (v := .bool true) rfl (r_move rfl (by kernel_rfl)) (by kernel_rfl) rfl rfl ?_
              refine W.sk s51 rfl (by kernel_rfl) rfl rfl ?_
              refine W.sk s51 rfl (by kernel_rfl) rfl rfl ?_
              refine W.sk s51 rfl (by kernel_rfl) rfl rfl ?_
              refine W.sk s51 rfl (by kernel_rfl) rfl rfl ?_
              refine W.sk s51 rfl (by kernel_rfl) rfl rfl ?_
              refine W.sk s51 rfl (by kernel_rfl) rfl rfl ?_
              refine W.sk s51 rfl (by kernel_rfl) rfl rfl ?_
              refine W.sk s51 rfl (by kernel_rfl) rfl rfl ?_
              refine W.sk s51 rfl (by kernel_rfl) rfl rfl ?_
              refine W.sq (v := .bool true) rfl (r_pick (b := true) rfl (by kernel_rfl) (by kernel_rfl)) (by kernel_rfl) rfl rfl ?_
              refine W.sch_end (l' := [.agg #[.int .i64 m, .slice A n c], .slice A2 n2 c2, .pointer (some ⟨b2, 0, none⟩), undef, .bool false, .int .i64 (((k + 1) : Nat) : Int), .pointer (some ⟨b31, 0, none⟩), .int .i64 (findL ps x21.pipe), .agg #[.int .i64 m, .slice A n c], .bool true, .bool false, .bool false, .slice A2 n2 c2, .int .i64 ((n2 : Nat) : Int), .bool false, .bool false, .slice A2 n2 c2, .int .i64 ((n2 : Nat) : Int), .int .i64 (((k + 1) : Nat) : Int), .bool true, .int .i64 (((k + 1) : Nat) : Int), .pointer (some ⟨b23, o24 + (k + 1) * 4, none⟩), .agg #[.int .i64 x21.id, .int .i64 x21.pipe, .int .i64 x21.node, .bool x21.shut], .agg #[.int .i64 m, .slice A n c], .pointer (some ⟨b31, 1, none⟩), .int .i64 x21.pipe, .int .i64 (findL ps x21.pipe), .pointer (some ⟨b31, 0, none⟩), .int .i64 x21.id, .bool true, .bool false, .bool false, .int .i64 (((k + 1) : Nat) : Int), .bool true, .bool true, .slice A2 n2 c2, .int .i64 (((k + 1) : Nat) : Int), .int .i64 ((k : Nat) : Int), .pointer (some ⟨b58, o59 + k * 4, none⟩), .pointer (some ⟨b58, o59 + k * 4, none⟩), .int .i64 x56.id, .pointer (some ⟨b31, 0, none⟩), .int .i64 x21.id, .bool true, .bool true, .bool true, .bool true, undef, undef, .bool true, .bool true, undef, undef, undef, .bool true, .bool true, undef, undef, undef, undef, undef, undef, undef, undef, undef, .bool true, (U0 66), (U0 67), (U0 68), (U0 69), (U0 70), (U0 71)]) (by kernel_rfl) ?_
              have x6 := SG.blk s51 x6 (by simp)
              have x41 := SG.blk s51 x41 (by simp)
              have c67 := (SG.belowR c48 s51 (fun kq e => by cases e))
              refine h14 _ _ ?_
              refine wp_cond_true (by kernel_rfl) ?_
              refine wp_seq_k (fun K15 h15 => ?_)
              refine W.region_quiet [(0, false)] (by kernel_rfl) ?_
              refine W.sq (v := .bool false) rfl (r_assign rfl (by kernel_rfl)) (by kernel_rfl) rfl rfl ?_
              refine W.sch_end (l' := [.agg #[.int .i64 m, .slice A n c], .slice A2 n2 c2, .pointer (some ⟨b2, 0, none⟩), undef, .bool false, .int .i64 (((k + 1) : Nat) : Int), .pointer (some ⟨b31, 0, none⟩), .int .i64 (findL ps x21.pipe), .agg #[.int .i64 m, .slice A n c], .bool true, .bool false, .bool false, .slice A2 n2 c2, .int .i64 ((n2 : Nat) : Int), .bool false, .bool false, .slice A2 n2 c2, .int .i64 ((n2 : Nat) : Int), .int .i64 (((k + 1) : Nat) : Int), .bool true, .int .i64 (((k + 1) : Nat) : Int), .pointer (some ⟨b23, o24 + (k + 1) * 4, none⟩), .agg #[.int .i64 x21.id, .int .i64 x21.pipe, .int .i64 x21.node, .bool x21.shut], .agg #[.int .i64 m, .slice A n c], .pointer (some ⟨b31, 1, none⟩), .int .i64 x21.pipe, .int .i64 (findL ps x21.pipe), .pointer (some ⟨b31, 0, none⟩), .int .i64 x21.id, .bool true, .bool false, .bool false, .int .i64 (((k + 1) : Nat) : Int), .bool true, .bool true, .slice A2 n2 c2, .int .i64 (((k + 1) : Nat) : Int), .int .i64 ((k : Nat) : Int), .pointer (some ⟨b58, o59 + k * 4, none⟩), .pointer (some ⟨b58, o59 + k * 4, none⟩), .int .i64 x56.id, .pointer (some ⟨b31, 0, none⟩), .int .i64 x21.id, .bool true, .bool true, .bool true, .bool true, undef, undef, .bool true, .bool true, undef, undef, undef, .bool true, .bool true, undef, undef, undef, undef, undef, undef, undef, undef, undef, .bool true, (U0 66), (U0 67), (U0 68), (U0 69), (U0 70), (U0 71)]) (by kernel_rfl) ?_
              refine h15 _ _ ?_
              refine wp_ret ?_
              try simp only [Exit.then, Exit.inBlock]
              refine ret1 (v := .bool false) rfl (by kernel_rfl) ?_
              have e8 : okV ps vs (k + 1) = false := Bool.eq_false_iff.2 (fun h9 => by
                have h8 := (okV_iff hx22).1 h9
                obtain ⟨⟨hA, hB⟩, hC, hD⟩ := h8
                obtain ⟨hC0, p9, hp9, hC1⟩ := endAt_pos hC
                have hg9 := (good_of q14).at hp9
                have h7 := (other_zero (u := x21.node) hg9.2.1.1 hg9.2.2.1.1)
                have hB' := of_decide_eq_true ((above_next hx57).symm.trans hB)
                first | omega | (rw [inB_iff.2 hA] at q54; cases q54))
              exact ⟨ret_bool (goodV_bad (k := k + 1) (by omega) e8).symm, c67⟩
            · refine W.sq (v := .bool false) rfl (r_geq (m := x56.id) (n := x21.id) rfl (by kernel_rfl) (by kernel_rfl) (decide_eq_false q66)) (by kernel_rfl) rfl rfl ?_
              refine W.sq (v := .bool false) rfl (r_pick (b := true) rfl (by kernel_rfl) (by kernel_rfl)) (by kernel_rfl) rfl rfl ?_
              refine W.sq (v := .bool false) rfl (r_pick (b := false) rfl (by kernel_rfl) (by kernel_rfl)) (by kernel_rfl) rfl rfl ?_
              refine W.sq (v := .bool false) rfl (r_move rfl (by kernel_rfl)) (by kernel_rfl) rfl rfl ?_
              refine W.sq (v := .int .i64 (findL ps x21.pipe)) rfl (r_move rfl (by kernel_rfl)) (by kernel_rfl) rfl rfl ?_
              by_cases q68 : (findL ps x21.pipe : Int) < (0 : Int)
              · refine W.sq (v := .bool true) rfl (r_lss (m := findL ps x21.pipe) (n := 0) rfl (by kernel_rfl) (by kernel_rfl) (decide_eq_true q68)) (by kernel_rfl) rfl rfl ?_
                refine W.sq (v := .bool true) rfl (r_pick (b := false) rfl (by kernel_rfl) (by kernel_rfl)) (by kernel_rfl) rfl rfl ?_
                refine W.sq (v := .bool true) rfl (r_move rfl (by kernel_rfl)) (by kernel_rfl) rfl rfl ?_
                refine W.sk s51 rfl (by kernel_rfl) rfl rfl ?_
                refine W.sk s51 rfl (by kernel_rfl) rfl rfl ?_
                refine W.sk s51 rfl (by kernel_rfl) rfl rfl ?_
                refine W.sq (v := .bool true) rfl (r_pick (b := true) rfl (by kernel_rfl) (by kernel_rfl)) (by kernel_rfl) rfl rfl ?_
                refine W.sq (v := .bool true) rfl (r_move rfl (by kernel_rfl)) (by kernel_rfl) rfl rfl ?_
                refine W.sk s51 rfl (by kernel_rfl) rfl rfl ?_
                refine W.sk s51 rfl (by kernel_rfl) rfl rfl ?_
                refine W.sk s51 rfl (by kernel_rfl) rfl rfl ?_
                refine W.sk s51 rfl (by kernel_rfl) rfl rfl ?_
                refine W.sk s51 rfl (by kernel_rfl) rfl rfl ?_
                refine W.sk s51 rfl (by kernel_rfl) rfl rfl ?_
                refine W.sk s51 rfl (by kernel_rfl) rfl rfl ?_
                refine W.sk s51 rfl (by kernel_rfl) rfl rfl ?_
                refine W.sk s51 rfl (by kernel_rfl) rfl rfl ?_
                refine W.sq (v := .bool true) rfl (r_pick (b := true) rfl (by kernel_rfl) (by kernel_rfl)) (by kernel_rfl) rfl rfl ?_
                refine W.sch_end (l' := [.agg #[.int .i64 m, .slice A n c], .slice A2 n2 c2, .pointer (some ⟨b2, 0, none⟩), undef, .bool false, .int .i64 (((k + 1) : Nat) : Int), .pointer (some ⟨b31, 0, none⟩), .int .i64 (findL ps x21.pipe), .agg #[.int .i64 m, .slice A n c], .bool true, .bool false, .bool false, .slice A2 n2 c2, .int .i64 ((n2 : Nat) : Int), .bool false, .bool false, .slice A2 n2 c2, .int .i64 ((n2 : Nat) : Int), .int .i64 (((k + 1) : Nat) : Int), .bool true, .int .i64 (((k + 1) : Nat) : Int), .pointer (some ⟨b23, o24 + (k + 1) * 4, none⟩), .agg #[.int .i64 x21.id, .int .i64 x21.pipe, .int .i64 x21.node, .bool x21.shut], .agg #[.int .i64 m, .slice A n c], .pointer (some ⟨b31, 1, none⟩), .int .i64 x21.pipe, .int .i64 (findL ps x21.pipe), .pointer (some ⟨b31, 0, none⟩), .int .i64 x21.id, .bool true, .bool false, .bool false, .int .i64 (((k + 1) : Nat) : Int), .bool true, .bool true, .slice A2 n2 c2, .int .i64 (((k + 1) : Nat) : Int), .int .i64 ((k : Nat) : Int), .pointer (some ⟨b58, o59 + k * 4, none⟩), .pointer (some ⟨b58, o59 + k * 4, none⟩), .int .i64 x56.id, .pointer (some ⟨b31, 0, none⟩), .int .i64 x21.id, .bool false, .bool false, .bool false, .bool false, .int .i64 (findL ps x21.pipe), .bool true, .bool true, .bool true, undef, undef, undef, .bool true, .bool true, undef, undef, undef, undef, undef, undef, undef, undef, undef, .bool true, (U0 66), (U0 67), (U0 68), (U0 69), (U0 70), (U0 71)]) (by kernel_rfl) ?_
                have x6 := SG.blk s51 x6 (by simp)
                have x41 := SG.blk s51 x41 (by simp)
                have c69 := (SG.belowR c48 s51 (fun kq e => by cases e))
                refine h14 _ _ ?_
                refine wp_cond_true (by kernel_rfl) ?_
                refine wp_seq_k (fun K16 h16 => ?_)
                refine W.region_quiet [(0, false)] (by kernel_rfl) ?_
                refine W.sq (v := .bool false) rfl (r_assign rfl (by kernel_rfl)) (by kernel_rfl) rfl rfl ?_
                refine W.sch_end (l' := [.agg #[.int .i64 m, .slice A n c], .slice A2 n2 c2, .pointer (some ⟨b2, 0, none⟩), undef, .bool false, .int .i64 (((k + 1) : Nat) : Int), .pointer (some ⟨b31, 0, none⟩), .int .i64 (findL ps x21.pipe), .agg #[.int .i64 m, .slice A n c], .bool true, .bool false, .bool false, .slice A2 n2 c2, .int .i64 ((n2 : Nat) : Int), .bool false, .bool false, .slice A2 n2 c2, .int .i64 ((n2 : Nat) : Int), .int .i64 (((k + 1) : Nat) : Int), .bool true, .int .i64 (((k + 1) : Nat) : Int), .pointer (some ⟨b23, o24 + (k + 1) * 4, none⟩), .agg #[.int .i64 x21.id, .int .i64 x21.pipe, .int .i64 x21.node, .bool x21.shut], .agg #[.int .i64 m, .slice A n c], .pointer (some ⟨b31, 1, none⟩), .int .i64 x21.pipe, .int .i64 (findL ps x21.pipe), .pointer (some ⟨b31, 0, none⟩), .int .i64 x21.id, .bool true, .bool false, .bool false, .int .i64 (((k + 1) : Nat) : Int), .bool true, .bool true, .slice A2 n2 c2, .int .i64 (((k + 1) : Nat) : Int), .int .i64 ((k : Nat) : Int), .pointer (some ⟨b58, o59 + k * 4, none⟩), .pointer (some ⟨b58, o59 + k * 4, none⟩), .int .i64 x56.id, .pointer (some ⟨b31, 0, none⟩), .int .i64 x21.id, .bool false, .bool false, .bool false, .bool false, .int .i64 (findL ps x21.pipe), .bool true, .bool true, .bool true, undef, undef, undef, .bool true, .bool true, undef, undef, undef, undef, undef, undef, undef, undef, undef, .bool true, (U0 66), (U0 67), (U0 68), (U0 69), (U0 70), (U0 71)]) (by kernel_rfl) ?_
                refine h16 _ _ ?_
                refine wp_ret ?_
                try simp only [Exit.then, Exit.inBlock]
                refine ret1 (v := .bool false) rfl (by kernel_rfl) ?_
                have e8 : okV ps vs (k + 1) = false := Bool.eq_false_iff.2 (fun h9 => by
                  have h8 := (okV_iff hx22).1 h9
                  obtain ⟨⟨hA, hB⟩, hC, hD⟩ := h8
                  obtain ⟨hC0, p9, hp9, hC1⟩ := endAt_pos hC
                  have hg9 := (good_of q14).at hp9
                  have h7 := (other_zero (u := x21.node) hg9.2.1.1 hg9.2.2.1.1)
                  have hB' := of_decide_eq_true ((above_next hx57).symm.trans hB)
                  first | omega | (rw [inB_iff.2 hA] at q54; cases q54))
                exact ⟨ret_bool (goodV_bad (k := k + 1) (by omega) e8).symm, c69⟩
              · refine W.sq (v := .bool false) rfl (r_lss (m := findL ps x21.pipe) (n := 0) rfl (by kernel_rfl) (by kernel_rfl) (decide_eq_false q68)) (by kernel_rfl) rfl rfl ?_
                refine W.sq (v := .bool false) rfl (r_pick (b := false) rfl (by kernel_rfl) (by kernel_rfl)) (by kernel_rfl) rfl rfl ?_
                refine W.sq (v := .bool false) rfl (r_move rfl (by kernel_rfl)) (by kernel_rfl) rfl rfl ?_
                refine W.sq (v := .pointer (some ⟨b31, 2, none⟩)) rfl (r_field (k := 2) rfl (by kernel_rfl) (by kernel_rfl)) (by kernel_rfl) rfl rfl ?_
                refine W.sq (v := .int .i64 x21.node) rfl (r_load rfl (by kernel_rfl) (by kernel_rfl) (sgS (blk_cell (j := 2) x41 (by kernel_rfl)) (by simp))) (by kernel_rfl) rfl rfl ?_
                by_cases q70 : (x21.node : Int) < (1 : Int)
                · refine W.sq (v := .bool true) rfl (r_lss (m := x21.node) (n := 1) rfl (by kernel_rfl) (by kernel_rfl) (decide_eq_true q70)) (by kernel_rfl) rfl rfl ?_
                  refine W.sq (v := .bool true) rfl (r_pick (b := false) rfl (by kernel_rfl) (by kernel_rfl)) (by kernel_rfl) rfl rfl ?_
                  refine W.sq (v := .bool true) rfl (r_move rfl (by kernel_rfl)) (by kernel_rfl) rfl rfl ?_
                  refine W.sk s51 rfl (by kernel_rfl) rfl rfl ?_
                  refine W.sk s51 rfl (by kernel_rfl) rfl rfl ?_
                  refine W.sk s51 rfl (by kernel_rfl) rfl rfl ?_
                  refine W.sk s51 rfl (by kernel_rfl) rfl rfl ?_
                  refine W.sk s51 rfl (by kernel_rfl) rfl rfl ?_
                  refine W.sk s51 rfl (by kernel_rfl) rfl rfl ?_
                  refine W.sk s51 rfl (by kernel_rfl) rfl rfl ?_
                  refine W.sk s51 rfl (by kernel_rfl) rfl rfl ?_
                  refine W.sk s51 rfl (by kernel_rfl) rfl rfl ?_
                  refine W.sq (v := .bool true) rfl (r_pick (b := true) rfl (by kernel_rfl) (by kernel_rfl)) (by kernel_rfl) rfl rfl ?_
                  refine W.sch_end (l' := [.agg #[.int .i64 m, .slice A n c], .slice A2 n2 c2, .pointer (some ⟨b2, 0, none⟩), undef, .bool false, .int .i64 (((k + 1) : Nat) : Int), .pointer (some ⟨b31, 0, none⟩), .int .i64 (findL ps x21.pipe), .agg #[.int .i64 m, .slice A n c], .bool true, .bool false, .bool false, .slice A2 n2 c2, .int .i64 ((n2 : Nat) : Int), .bool false, .bool false, .slice A2 n2 c2, .int .i64 ((n2 : Nat) : Int), .int .i64 (((k + 1) : Nat) : Int), .bool true, .int .i64 (((k + 1) : Nat) : Int), .pointer (some ⟨b23, o24 + (k + 1) * 4, none⟩), .agg #[.int .i64 x21.id, .int .i64 x21.pipe, .int .i64 x21.node, .bool x21.shut], .agg #[.int .i64 m, .slice A n c], .pointer (some ⟨b31, 1, none⟩), .int .i64 x21.pipe, .int .i64 (findL ps x21.pipe), .pointer (some ⟨b31, 0, none⟩), .int .i64 x21.id, .bool true, .bool false, .bool false, .int .i64 (((k + 1) : Nat) : Int), .bool true, .bool true, .slice A2 n2 c2, .int .i64 (((k + 1) : Nat) : Int), .int .i64 ((k : Nat) : Int), .pointer (some ⟨b58, o59 + k * 4, none⟩), .pointer (some ⟨b58, o59 + k * 4, none⟩), .int .i64 x56.id, .pointer (some ⟨b31, 0, none⟩), .int .i64 x21.id, .bool false, .bool false, .bool false, .bool false, .int .i64 (findL ps x21.pipe), .bool false, .bool false, .bool false, .pointer (some ⟨b31, 2, none⟩), .int .i64 x21.node, .bool true, .bool true, .bool true, undef, undef, undef, undef, undef, undef, undef, undef, undef, .bool true, (U0 66), (U0 67), (U0 68), (U0 69), (U0 70), (U0 71)]) (by kernel_rfl) ?_
                  have x6 := SG.blk s51 x6 (by simp)
                  have x41 := SG.blk s51 x41 (by simp)
                  have c71 := (SG.belowR c48 s51 (fun kq e => by cases e))
                  refine h14 _ _ ?_
                  refine wp_cond_true (by kernel_rfl) ?_
                  refine wp_seq_k (fun K17 h17 => ?_)
                  refine W.region_quiet [(0, false)] (by kernel_rfl) ?_
                  refine W.sq (v := .bool false) rfl (r_assign rfl (by kernel_rfl)) (by kernel_rfl) rfl rfl ?_
                  refine W.sch_end (l' := [.agg #[.int .i64 m, .slice A n c], .slice A2 n2 c2, .pointer (some ⟨b2, 0, none⟩), undef, .bool false, .int .i64 (((k + 1) : Nat) : Int), .pointer (some ⟨b31, 0, none⟩), .int .i64 (findL ps x21.pipe), .agg #[.int .i64 m, .slice A n c], .bool true, .bool false, .bool false, .slice A2 n2 c2, .int .i64 ((n2 : Nat) : Int), .bool false, .bool false, .slice A2 n2 c2, .int .i64 ((n2 : Nat) : Int), .int .i64 (((k + 1) : Nat) : Int), .bool true, .int .i64 (((k + 1) : Nat) : Int), .pointer (some ⟨b23, o24 + (k + 1) * 4, none⟩), .agg #[.int .i64 x21.id, .int .i64 x21.pipe, .int .i64 x21.node, .bool x21.shut], .agg #[.int .i64 m, .slice A n c], .pointer (some ⟨b31, 1, none⟩), .int .i64 x21.pipe, .int .i64 (findL ps x21.pipe), .pointer (some ⟨b31, 0, none⟩), .int .i64 x21.id, .bool true, .bool false, .bool false, .int .i64 (((k + 1) : Nat) : Int), .bool true, .bool true, .slice A2 n2 c2, .int .i64 (((k + 1) : Nat) : Int), .int .i64 ((k : Nat) : Int), .pointer (some ⟨b58, o59 + k * 4, none⟩), .pointer (some ⟨b58, o59 + k * 4, none⟩), .int .i64 x56.id, .pointer (some ⟨b31, 0, none⟩), .int .i64 x21.id, .bool false, .bool false, .bool false, .bool false, .int .i64 (findL ps x21.pipe), .bool false, .bool false, .bool false, .pointer (some ⟨b31, 2, none⟩), .int .i64 x21.node, .bool true, .bool true, .bool true, undef, undef, undef, undef, undef, undef, undef, undef, undef, .bool true, (U0 66), (U0 67), (U0 68), (U0 69), (U0 70), (U0 71)]) (by kernel_rfl) ?_
                  refine h17 _ _ ?_
                  refine wp_ret ?_
                  try simp only [Exit.then, Exit.inBlock]
                  refine ret1 (v := .bool false) rfl (by kernel_rfl) ?_
                  have e8 : okV ps vs (k + 1) = false := Bool.eq_false_iff.2 (fun h9 => by
                    have h8 := (okV_iff hx22).1 h9
                    obtain ⟨⟨hA, hB⟩, hC, hD⟩ := h8
                    obtain ⟨hC0, p9, hp9, hC1⟩ := endAt_pos hC
                    have hg9 := (good_of q14).at hp9
                    have h7 := (other_zero (u := x21.node) hg9.2.1.1 hg9.2.2.1.1)
                    have hB' := of_decide_eq_true ((above_next hx57).symm.trans hB)
                    first | omega | (rw [inB_iff.2 hA] at q54; cases q54))
                  exact ⟨ret_bool (goodV_bad (k := k + 1) (by omega) e8).symm, c71⟩
                · refine W.sq (v := .bool false) rfl (r_lss (m := x21.node) (n := 1) rfl (by kernel_rfl) (by kernel_rfl) (decide_eq_false q70)) (by kernel_rfl) rfl rfl ?_
                  refine W.sq (v := .bool false) rfl (r_pick (b := false) rfl (by kernel_rfl) (by kernel_rfl)) (by kernel_rfl) rfl rfl ?_
                  refine W.sq (v := .bool false) rfl (r_move rfl (by kernel_rfl)) (by kernel_rfl) rfl rfl ?_
                  refine W.sq (v := .pointer (some ⟨b2, 1, none⟩)) rfl (r_field (k := 1) rfl (by kernel_rfl) (by kernel_rfl)) (by kernel_rfl) rfl rfl ?_
                  refine W.sq (v := .slice A n c) rfl (r_load rfl (by kernel_rfl) (by kernel_rfl) (sgS (blk_cell (j := 1) x6 (by kernel_rfl)) (by simp))) (by kernel_rfl) rfl rfl ?_
                  refine W.sq (v := .int .i64 (findL ps x21.pipe)) rfl (r_move rfl (by kernel_rfl)) (by kernel_rfl) rfl rfl ?_
                  have hfl := findL_lt ps x21.pipe
                  obtain ⟨pz, hpz⟩ := get_of (zs := ps) (k := (findL ps x21.pipe).toNat) (by omega)
                  have hgz := (good_of q14).at hpz
                  obtain ⟨b72, o73, hA74, hb75, hc76, hc77, hc78, hc79⟩ := Rd.elPipe ha hpz
                  refine W.sq (v := .pointer (some ⟨b72, o73 + ((findL ps x21.pipe).toNat) * 4, none⟩)) rfl (r_idx (n := n) (c := c) (k := (findL ps x21.pipe).toNat) rfl (by kernel_rfl) hA74 (evk (z := findL ps x21.pipe) (by kernel_rfl) (by omega)) (by kernel_rfl) (by have := hl; omega)) (by kernel_rfl) rfl rfl ?_
                  refine W.sq (v := .agg #[.int .i64 pz.id, .int .i64 pz.fr, .int .i64 pz.to, .int .i64 pz.sz]) rfl (r_load4 rfl (by kernel_rfl) (by kernel_rfl) (by kernel_rfl) (sgS (later c48 hc76) (by simp)) (sgS (later c48 hc77) (by simp)) (sgS (later c48 hc78) (by simp)) (sgS (later c48 hc79) (by simp))) (by kernel_rfl) rfl rfl ?_
                  refine W.sq (v := .pointer (some ⟨b31, 2, none⟩)) rfl (r_field (k := 2) rfl (by kernel_rfl) (by kernel_rfl)) (by kernel_rfl) rfl rfl ?_
                  refine W.sq (v := .int .i64 x21.node) rfl (r_load rfl (by kernel_rfl) (by kernel_rfl) (sgS (blk_cell (j := 2) x41 (by kernel_rfl)) (by simp))) (by kernel_rfl) rfl rfl ?_
                  refine W.sc (vs := [.agg #[.int .i64 pz.id, .int .i64 pz.fr, .int .i64 pz.to, .int .i64 pz.sz], .int .i64 x21.node]) rfl rfl (by kernel_rfl) (by kernel_rfl) (by kernel_rfl) rfl (other_any pz x21.node _) ?_
                  rintro e w81 ⟨rfl, b80⟩
                  have s82 := SG.of_below s51 b80
                  refine ⟨_, rfl, s82, ?_⟩
                  by_cases q83 : (otherOf pz x21.node : Int) = (0 : Int)
                  · refine W.sq (v := .bool true) rfl (r_eql (m := otherOf pz x21.node) (n := 0) rfl (by kernel_rfl) (by kernel_rfl) (decide_eq_true q83)) (by kernel_rfl) rfl rfl ?_
                    refine W.sq (v := .bool true) rfl (r_pick (b := false) rfl (by kernel_rfl) (by kernel_rfl)) (by kernel_rfl) rfl rfl ?_
                    refine W.sch_end (l' := [.agg #[.int .i64 m, .slice A n c], .slice A2 n2 c2, .pointer (some ⟨b2, 0, none⟩), undef, .bool false, .int .i64 (((k + 1) : Nat) : Int), .pointer (some ⟨b31, 0, none⟩), .int .i64 (findL ps x21.pipe), .agg #[.int .i64 m, .slice A n c], .bool true, .bool false, .bool false, .slice A2 n2 c2, .int .i64 ((n2 : Nat) : Int), .bool false, .bool false, .slice A2 n2 c2, .int .i64 ((n2 : Nat) : Int), .int .i64 (((k + 1) : Nat) : Int), .bool true, .int .i64 (((k + 1) : Nat) : Int), .pointer (some ⟨b23, o24 + (k + 1) * 4, none⟩), .agg #[.int .i64 x21.id, .int .i64 x21.pipe, .int .i64 x21.node, .bool x21.shut], .agg #[.int .i64 m, .slice A n c], .pointer (some ⟨b31, 1, none⟩), .int .i64 x21.pipe, .int .i64 (findL ps x21.pipe), .pointer (some ⟨b31, 0, none⟩), .int .i64 x21.id, .bool true, .bool false, .bool false, .int .i64 (((k + 1) : Nat) : Int), .bool true, .bool true, .slice A2 n2 c2, .int .i64 (((k + 1) : Nat) : Int), .int .i64 ((k : Nat) : Int), .pointer (some ⟨b58, o59 + k * 4, none⟩), .pointer (some ⟨b58, o59 + k * 4, none⟩), .int .i64 x56.id, .pointer (some ⟨b31, 0, none⟩), .int .i64 x21.id, .bool false, .bool false, .bool false, .bool false, .int .i64 (findL ps x21.pipe), .bool false, .bool false, .bool false, .pointer (some ⟨b31, 2, none⟩), .int .i64 x21.node, .bool false, .bool false, .bool false, .pointer (some ⟨b2, 1, none⟩), .slice A n c, .int .i64 (findL ps x21.pipe), .pointer (some ⟨b72, o73 + ((findL ps x21.pipe).toNat) * 4, none⟩), .agg #[.int .i64 pz.id, .int .i64 pz.fr, .int .i64 pz.to, .int .i64 pz.sz], .pointer (some ⟨b31, 2, none⟩), .int .i64 x21.node, .int .i64 (otherOf pz x21.node), .bool true, .bool true, (U0 66), (U0 67), (U0 68), (U0 69), (U0 70), (U0 71)]) (by kernel_rfl) ?_
                    have x6 := SG.blk s82 x6 (by simp)
                    have x41 := SG.blk s82 x41 (by simp)
                    have c84 := (SG.belowR c48 s82 (fun kq e => by cases e))
                    refine h14 _ _ ?_
                    refine wp_cond_true (by kernel_rfl) ?_
                    refine wp_seq_k (fun K18 h18 => ?_)
                    refine W.region_quiet [(0, false)] (by kernel_rfl) ?_
                    refine W.sq (v := .bool false) rfl (r_assign rfl (by kernel_rfl)) (by kernel_rfl) rfl rfl ?_
                    refine W.sch_end (l' := [.agg #[.int .i64 m, .slice A n c], .slice A2 n2 c2, .pointer (some ⟨b2, 0, none⟩), undef, .bool false, .int .i64 (((k + 1) : Nat) : Int), .pointer (some ⟨b31, 0, none⟩), .int .i64 (findL ps x21.pipe), .agg #[.int .i64 m, .slice A n c], .bool true, .bool false, .bool false, .slice A2 n2 c2, .int .i64 ((n2 : Nat) : Int), .bool false, .bool false, .slice A2 n2 c2, .int .i64 ((n2 : Nat) : Int), .int .i64 (((k + 1) : Nat) : Int), .bool true, .int .i64 (((k + 1) : Nat) : Int), .pointer (some ⟨b23, o24 + (k + 1) * 4, none⟩), .agg #[.int .i64 x21.id, .int .i64 x21.pipe, .int .i64 x21.node, .bool x21.shut], .agg #[.int .i64 m, .slice A n c], .pointer (some ⟨b31, 1, none⟩), .int .i64 x21.pipe, .int .i64 (findL ps x21.pipe), .pointer (some ⟨b31, 0, none⟩), .int .i64 x21.id, .bool true, .bool false, .bool false, .int .i64 (((k + 1) : Nat) : Int), .bool true, .bool true, .slice A2 n2 c2, .int .i64 (((k + 1) : Nat) : Int), .int .i64 ((k : Nat) : Int), .pointer (some ⟨b58, o59 + k * 4, none⟩), .pointer (some ⟨b58, o59 + k * 4, none⟩), .int .i64 x56.id, .pointer (some ⟨b31, 0, none⟩), .int .i64 x21.id, .bool false, .bool false, .bool false, .bool false, .int .i64 (findL ps x21.pipe), .bool false, .bool false, .bool false, .pointer (some ⟨b31, 2, none⟩), .int .i64 x21.node, .bool false, .bool false, .bool false, .pointer (some ⟨b2, 1, none⟩), .slice A n c, .int .i64 (findL ps x21.pipe), .pointer (some ⟨b72, o73 + ((findL ps x21.pipe).toNat) * 4, none⟩), .agg #[.int .i64 pz.id, .int .i64 pz.fr, .int .i64 pz.to, .int .i64 pz.sz], .pointer (some ⟨b31, 2, none⟩), .int .i64 x21.node, .int .i64 (otherOf pz x21.node), .bool true, .bool true, (U0 66), (U0 67), (U0 68), (U0 69), (U0 70), (U0 71)]) (by kernel_rfl) ?_
                    refine h18 _ _ ?_
                    refine wp_ret ?_
                    try simp only [Exit.then, Exit.inBlock]
                    refine ret1 (v := .bool false) rfl (by kernel_rfl) ?_
                    have e8 : okV ps vs (k + 1) = false := Bool.eq_false_iff.2 (fun h9 => by
                      have h8 := (okV_iff hx22).1 h9
                      obtain ⟨⟨hA, hB⟩, hC, hD⟩ := h8
                      obtain ⟨hC0, p9, hp9, hC1⟩ := endAt_pos hC
                      have hg9 := (good_of q14).at hp9
                      have h7 := (other_zero (u := x21.node) hg9.2.1.1 hg9.2.2.1.1)
                      have hB' := of_decide_eq_true ((above_next hx57).symm.trans hB)
                      obtain rfl := Option.some.inj (hp9.symm.trans hpz)
                      first | omega | (rw [inB_iff.2 hA] at q54; cases q54))
                    exact ⟨ret_bool (goodV_bad (k := k + 1) (by omega) e8).symm, c84⟩
                  · refine W.sq (v := .bool false) rfl (r_eql (m := otherOf pz x21.node) (n := 0) rfl (by kernel_rfl) (by kernel_rfl) (decide_eq_false q83)) (by kernel_rfl) rfl rfl ?_
                    refine W.sq (v := .bool false) rfl (r_pick (b := false) rfl (by kernel_rfl) (by kernel_rfl)) (by kernel_rfl) rfl rfl ?_
                    refine W.sch_end (l' := [.agg #[.int .i64 m, .slice A n c], .slice A2 n2 c2, .pointer (some ⟨b2, 0, none⟩), undef, .bool false, .int .i64 (((k + 1) : Nat) : Int), .pointer (some ⟨b31, 0, none⟩), .int .i64 (findL ps x21.pipe), .agg #[.int .i64 m, .slice A n c], .bool true, .bool false, .bool false, .slice A2 n2 c2, .int .i64 ((n2 : Nat) : Int), .bool false, .bool false, .slice A2 n2 c2, .int .i64 ((n2 : Nat) : Int), .int .i64 (((k + 1) : Nat) : Int), .bool true, .int .i64 (((k + 1) : Nat) : Int), .pointer (some ⟨b23, o24 + (k + 1) * 4, none⟩), .agg #[.int .i64 x21.id, .int .i64 x21.pipe, .int .i64 x21.node, .bool x21.shut], .agg #[.int .i64 m, .slice A n c], .pointer (some ⟨b31, 1, none⟩), .int .i64 x21.pipe, .int .i64 (findL ps x21.pipe), .pointer (some ⟨b31, 0, none⟩), .int .i64 x21.id, .bool true, .bool false, .bool false, .int .i64 (((k + 1) : Nat) : Int), .bool true, .bool true, .slice A2 n2 c2, .int .i64 (((k + 1) : Nat) : Int), .int .i64 ((k : Nat) : Int), .pointer (some ⟨b58, o59 + k * 4, none⟩), .pointer (some ⟨b58, o59 + k * 4, none⟩), .int .i64 x56.id, .pointer (some ⟨b31, 0, none⟩), .int .i64 x21.id, .bool false, .bool false, .bool false, .bool false, .int .i64 (findL ps x21.pipe), .bool false, .bool false, .bool false, .pointer (some ⟨b31, 2, none⟩), .int .i64 x21.node, .bool false, .bool false, .bool false, .pointer (some ⟨b2, 1, none⟩), .slice A n c, .int .i64 (findL ps x21.pipe), .pointer (some ⟨b72, o73 + ((findL ps x21.pipe).toNat) * 4, none⟩), .agg #[.int .i64 pz.id, .int .i64 pz.fr, .int .i64 pz.to, .int .i64 pz.sz], .pointer (some ⟨b31, 2, none⟩), .int .i64 x21.node, .int .i64 (otherOf pz x21.node), .bool false, .bool false, (U0 66), (U0 67), (U0 68), (U0 69), (U0 70), (U0 71)]) (by kernel_rfl) ?_
                    have x6 := SG.blk s82 x6 (by simp)
                    have x41 := SG.blk s82 x41 (by simp)
                    have c85 := (SG.belowR c48 s82 (fun kq e => by cases e))
                    refine h14 _ _ ?_
                    refine wp_cond_false (by kernel_rfl) ?_
                    refine wp_skip ?_
                    refine h13 _ _ ?_
                    refine wp_seq_k (fun K19 h19 => ?_)
                    refine W.region_plain (row := none) [(0, false), (1, false), (2, false), (3, false), (4, true)] (by kernel_rfl) ?_
                    have s86 := SG.self w81 none
                    refine W.sq (v := .slice A2 n2 c2) rfl (r_move rfl (by kernel_rfl)) (by kernel_rfl) rfl rfl ?_
                    refine W.sq (v := .int .i64 (((k + 1) : Nat) : Int)) rfl (r_move rfl (by kernel_rfl)) (by kernel_rfl) rfl rfl ?_
                    refine W.sq (v := .slice A2 (k + 1) c2) rfl (r_sliceTo (A := A2) (n := n2) (c := c2) (k := (k + 1)) (size := 4) rfl (by kernel_rfl) (by kernel_rfl) (by kernel_rfl) (by have := (hfm2).le; omega)) (by kernel_rfl) rfl rfl ?_
                    refine W.sq (v := .func (.func 62) #[] #[.pointer (some ⟨b31, 0, none⟩)]) rfl (r_makeFunc (vs := [.pointer (some ⟨b31, 0, none⟩)]) rfl (by kernel_rfl)) (by kernel_rfl) rfl rfl ?_
                    refine W.sc (vs := [.slice A2 (k + 1) c2, .func (.func 62) #[] #[.pointer (some ⟨b31, 0, none⟩)]]) rfl rfl (by kernel_rfl) (by kernel_rfl) (by kernel_rfl) rfl (anyV_any A2 (k + 1) c2 (vs.take (k + 1)) 62 #[.pointer (some ⟨b31, 0, none⟩)] (fun v => decide (v.pipe = x21.pipe) && decide (v.node = x21.node)) _ (Rd.toV (Rd.kept hb (SG.belowR c85 s86 (fun kq e => by cases e))) (by omega)) (by omega) (by kernel_rfl) (fun W v hW => validF_any v x21 b31 W ((hW.block _ (blk_lt x41)).trans x41))) ?_
                    rintro e w88 ⟨rfl, b87⟩
                    have s89 := SG.of_below s86 b87
                    refine ⟨_, rfl, s89, ?_⟩
                    rcases Bool.eq_false_or_eq_true ((vs.take (k + 1)).any (fun v => decide (v.pipe = x21.pipe) && decide (v.node = x21.node))) with q90 | q90
                    · rw [q90]
                      refine W.sch_end (l' := [.agg #[.int .i64 m, .slice A n c], .slice A2 n2 c2, .pointer (some ⟨b2, 0, none⟩), undef, .bool false, .int .i64 (((k + 1) : Nat) : Int), .pointer (some ⟨b31, 0, none⟩), .int .i64 (findL ps x21.pipe), .agg #[.int .i64 m, .slice A n c], .bool true, .bool false, .bool false, .slice A2 n2 c2, .int .i64 ((n2 : Nat) : Int), .bool false, .bool false, .slice A2 n2 c2, .int .i64 ((n2 : Nat) : Int), .int .i64 (((k + 1) : Nat) : Int), .bool true, .int .i64 (((k + 1) : Nat) : Int), .pointer (some ⟨b23, o24 + (k + 1) * 4, none⟩), .agg #[.int .i64 x21.id, .int .i64 x21.pipe, .int .i64 x21.node, .bool x21.shut], .agg #[.int .i64 m, .slice A n c], .pointer (some ⟨b31, 1, none⟩), .int .i64 x21.pipe, .int .i64 (findL ps x21.pipe), .pointer (some ⟨b31, 0, none⟩), .int .i64 x21.id, .bool true, .bool false, .bool false, .int .i64 (((k + 1) : Nat) : Int), .bool true, .bool true, .slice A2 n2 c2, .int .i64 (((k + 1) : Nat) : Int), .int .i64 ((k : Nat) : Int), .pointer (some ⟨b58, o59 + k * 4, none⟩), .pointer (some ⟨b58, o59 + k * 4, none⟩), .int .i64 x56.id, .pointer (some ⟨b31, 0, none⟩), .int .i64 x21.id, .bool false, .bool false, .bool false, .bool false, .int .i64 (findL ps x21.pipe), .bool false, .bool false, .bool false, .pointer (some ⟨b31, 2, none⟩), .int .i64 x21.node, .bool false, .bool false, .bool false, .pointer (some ⟨b2, 1, none⟩), .slice A n c, .int .i64 (findL ps x21.pipe), .pointer (some ⟨b72, o73 + ((findL ps x21.pipe).toNat) * 4, none⟩), .agg #[.int .i64 pz.id, .int .i64 pz.fr, .int .i64 pz.to, .int .i64 pz.sz], .pointer (some ⟨b31, 2, none⟩), .int .i64 x21.node, .int .i64 (otherOf pz x21.node), .bool false, .bool false, .slice A2 n2 c2, .int .i64 (((k + 1) : Nat) : Int), .slice A2 (k + 1) c2, .func (.func 62) #[] #[.pointer (some ⟨b31, 0, none⟩)], .bool true, (U0 71)]) (by kernel_rfl) ?_
                      have x6 := SG.blk s89 x6 (by simp)
                      have x41 := SG.blk s89 x41 (by simp)
                      have c91 := (SG.belowR c85 s89 (fun kq e => by cases e))
                      refine h19 _ _ ?_
                      refine wp_cond_true (by kernel_rfl) ?_
                      refine wp_seq_k (fun K20 h20 => ?_)
                      refine W.region_quiet [(0, false)] (by kernel_rfl) ?_
                      refine W.sq (v := .bool false) rfl (r_assign rfl (by kernel_rfl)) (by kernel_rfl) rfl rfl ?_
                      refine W.sch_end (l' := [.agg #[.int .i64 m, .slice A n c], .slice A2 n2 c2, .pointer (some ⟨b2, 0, none⟩), undef, .bool false, .int .i64 (((k + 1) : Nat) : Int), .pointer (some ⟨b31, 0, none⟩), .int .i64 (findL ps x21.pipe), .agg #[.int .i64 m, .slice A n c], .bool true, .bool false, .bool false, .slice A2 n2 c2, .int .i64 ((n2 : Nat) : Int), .bool false, .bool false, .slice A2 n2 c2, .int .i64 ((n2 : Nat) : Int), .int .i64 (((k + 1) : Nat) : Int), .bool true, .int .i64 (((k + 1) : Nat) : Int), .pointer (some ⟨b23, o24 + (k + 1) * 4, none⟩), .agg #[.int .i64 x21.id, .int .i64 x21.pipe, .int .i64 x21.node, .bool x21.shut], .agg #[.int .i64 m, .slice A n c], .pointer (some ⟨b31, 1, none⟩), .int .i64 x21.pipe, .int .i64 (findL ps x21.pipe), .pointer (some ⟨b31, 0, none⟩), .int .i64 x21.id, .bool true, .bool false, .bool false, .int .i64 (((k + 1) : Nat) : Int), .bool true, .bool true, .slice A2 n2 c2, .int .i64 (((k + 1) : Nat) : Int), .int .i64 ((k : Nat) : Int), .pointer (some ⟨b58, o59 + k * 4, none⟩), .pointer (some ⟨b58, o59 + k * 4, none⟩), .int .i64 x56.id, .pointer (some ⟨b31, 0, none⟩), .int .i64 x21.id, .bool false, .bool false, .bool false, .bool false, .int .i64 (findL ps x21.pipe), .bool false, .bool false, .bool false, .pointer (some ⟨b31, 2, none⟩), .int .i64 x21.node, .bool false, .bool false, .bool false, .pointer (some ⟨b2, 1, none⟩), .slice A n c, .int .i64 (findL ps x21.pipe), .pointer (some ⟨b72, o73 + ((findL ps x21.pipe).toNat) * 4, none⟩), .agg #[.int .i64 pz.id, .int .i64 pz.fr, .int .i64 pz.to, .int .i64 pz.sz], .pointer (some ⟨b31, 2, none⟩), .int .i64 x21.node, .int .i64 (otherOf pz x21.node), .bool false, .bool false, .slice A2 n2 c2, .int .i64 (((k + 1) : Nat) : Int), .slice A2 (k + 1) c2, .func (.func 62) #[] #[.pointer (some ⟨b31, 0, none⟩)], .bool true, (U0 71)]) (by kernel_rfl) ?_
                      refine h20 _ _ ?_
                      refine wp_ret ?_
                      try simp only [Exit.then, Exit.inBlock]
                      refine ret1 (v := .bool false) rfl (by kernel_rfl) ?_
                      have e8 : okV ps vs (k + 1) = false := Bool.eq_false_iff.2 (fun h9 => by
                        have h8 := (okV_iff hx22).1 h9
                        obtain ⟨⟨hA, hB⟩, hC, hD⟩ := h8
                        obtain ⟨hC0, p9, hp9, hC1⟩ := endAt_pos hC
                        have hg9 := (good_of q14).at hp9
                        have h7 := (other_zero (u := x21.node) hg9.2.1.1 hg9.2.2.1.1)
                        have hB' := of_decide_eq_true ((above_next hx57).symm.trans hB)
                        obtain rfl := Option.some.inj (hp9.symm.trans hpz)
                        exact absurd (show placed (vs.take (k + 1)) x21.pipe x21.node = true from q90) (by rw [hD]; simp))
                      exact ⟨ret_bool (goodV_bad (k := k + 1) (by omega) e8).symm, c91⟩
                    · rw [q90]
                      refine W.sch_end (l' := [.agg #[.int .i64 m, .slice A n c], .slice A2 n2 c2, .pointer (some ⟨b2, 0, none⟩), undef, .bool false, .int .i64 (((k + 1) : Nat) : Int), .pointer (some ⟨b31, 0, none⟩), .int .i64 (findL ps x21.pipe), .agg #[.int .i64 m, .slice A n c], .bool true, .bool false, .bool false, .slice A2 n2 c2, .int .i64 ((n2 : Nat) : Int), .bool false, .bool false, .slice A2 n2 c2, .int .i64 ((n2 : Nat) : Int), .int .i64 (((k + 1) : Nat) : Int), .bool true, .int .i64 (((k + 1) : Nat) : Int), .pointer (some ⟨b23, o24 + (k + 1) * 4, none⟩), .agg #[.int .i64 x21.id, .int .i64 x21.pipe, .int .i64 x21.node, .bool x21.shut], .agg #[.int .i64 m, .slice A n c], .pointer (some ⟨b31, 1, none⟩), .int .i64 x21.pipe, .int .i64 (findL ps x21.pipe), .pointer (some ⟨b31, 0, none⟩), .int .i64 x21.id, .bool true, .bool false, .bool false, .int .i64 (((k + 1) : Nat) : Int), .bool true, .bool true, .slice A2 n2 c2, .int .i64 (((k + 1) : Nat) : Int), .int .i64 ((k : Nat) : Int), .pointer (some ⟨b58, o59 + k * 4, none⟩), .pointer (some ⟨b58, o59 + k * 4, none⟩), .int .i64 x56.id, .pointer (some ⟨b31, 0, none⟩), .int .i64 x21.id, .bool false, .bool false, .bool false, .bool false, .int .i64 (findL ps x21.pipe), .bool false, .bool false, .bool false, .pointer (some ⟨b31, 2, none⟩), .int .i64 x21.node, .bool false, .bool false, .bool false, .pointer (some ⟨b2, 1, none⟩), .slice A n c, .int .i64 (findL ps x21.pipe), .pointer (some ⟨b72, o73 + ((findL ps x21.pipe).toNat) * 4, none⟩), .agg #[.int .i64 pz.id, .int .i64 pz.fr, .int .i64 pz.to, .int .i64 pz.sz], .pointer (some ⟨b31, 2, none⟩), .int .i64 x21.node, .int .i64 (otherOf pz x21.node), .bool false, .bool false, .slice A2 n2 c2, .int .i64 (((k + 1) : Nat) : Int), .slice A2 (k + 1) c2, .func (.func 62) #[] #[.pointer (some ⟨b31, 0, none⟩)], .bool false, (U0 71)]) (by kernel_rfl) ?_
                      have x6 := SG.blk s89 x6 (by simp)
                      have x41 := SG.blk s89 x41 (by simp)
                      have c92 := (SG.belowR c85 s89 (fun kq e => by cases e))
                      refine h19 _ _ ?_
                      refine wp_cond_false (by kernel_rfl) ?_
                      refine wp_skip ?_
                      refine h10 _ _ ?_
                      refine W.region_quiet [(0, false), (1, false)] (by kernel_rfl) ?_
                      refine W.sq (v := .int .i64 (((k + 1) + 1 : Nat) : Int)) rfl (r_add (m := (((k + 1) : Nat) : Int)) (n := 1) (z := (((k + 1) + 1 : Nat) : Int)) rfl (by kernel_rfl) (by kernel_rfl) (by omega) (by omega)) (by kernel_rfl) rfl rfl ?_
                      refine W.sq (v := .int .i64 (((k + 1) + 1 : Nat) : Int)) rfl (r_move rfl (by kernel_rfl)) (by kernel_rfl) rfl rfl ?_
                      refine W.sch_end (l' := [.agg #[.int .i64 m, .slice A n c], .slice A2 n2 c2, .pointer (some ⟨b2, 0, none⟩), undef, .bool false, .int .i64 (((k + 1) : Nat) : Int), .pointer (some ⟨b31, 0, none⟩), .int .i64 (findL ps x21.pipe), .agg #[.int .i64 m, .slice A n c], .bool true, .bool false, .bool false, .slice A2 n2 c2, .int .i64 ((n2 : Nat) : Int), .bool false, .bool false, .slice A2 n2 c2, .int .i64 ((n2 : Nat) : Int), .int .i64 (((k + 1) + 1 : Nat) : Int), .bool true, .int .i64 (((k + 1) : Nat) : Int), .pointer (some ⟨b23, o24 + (k + 1) * 4, none⟩), .agg #[.int .i64 x21.id, .int .i64 x21.pipe, .int .i64 x21.node, .bool x21.shut], .agg #[.int .i64 m, .slice A n c], .pointer (some ⟨b31, 1, none⟩), .int .i64 x21.pipe, .int .i64 (findL ps x21.pipe), .pointer (some ⟨b31, 0, none⟩), .int .i64 x21.id, .bool true, .bool false, .bool false, .int .i64 (((k + 1) : Nat) : Int), .bool true, .bool true, .slice A2 n2 c2, .int .i64 (((k + 1) : Nat) : Int), .int .i64 ((k : Nat) : Int), .pointer (some ⟨b58, o59 + k * 4, none⟩), .pointer (some ⟨b58, o59 + k * 4, none⟩), .int .i64 x56.id, .pointer (some ⟨b31, 0, none⟩), .int .i64 x21.id, .bool false, .bool false, .bool false, .bool false, .int .i64 (findL ps x21.pipe), .bool false, .bool false, .bool false, .pointer (some ⟨b31, 2, none⟩), .int .i64 x21.node, .bool false, .bool false, .bool false, .pointer (some ⟨b2, 1, none⟩), .slice A n c, .int .i64 (findL ps x21.pipe), .pointer (some ⟨b72, o73 + ((findL ps x21.pipe).toNat) * 4, none⟩), .agg #[.int .i64 pz.id, .int .i64 pz.fr, .int .i64 pz.to, .int .i64 pz.sz], .pointer (some ⟨b31, 2, none⟩), .int .i64 x21.node, .int .i64 (otherOf pz x21.node), .bool false, .bool false, .slice A2 n2 c2, .int .i64 (((k + 1) : Nat) : Int), .slice A2 (k + 1) c2, .func (.func 62) #[] #[.pointer (some ⟨b31, 0, none⟩)], .bool false, .int .i64 (((k + 1) + 1 : Nat) : Int)]) (by kernel_rfl) ?_
                      exact h7 _ _ _ (by omega : (n2 - (k + 1 + 1)) < _) ⟨k + 1 + 1, (fun iU9 => [.agg #[.int .i64 m, .slice A n c], .slice A2 n2 c2, .pointer (some ⟨b2, 0, none⟩), undef, .bool false, .int .i64 (((k + 1) : Nat) : Int), .pointer (some ⟨b31, 0, none⟩), .int .i64 (findL ps x21.pipe), .agg #[.int .i64 m, .slice A n c], .bool true, .bool false, .bool false, .slice A2 n2 c2, .int .i64 ((n2 : Nat) : Int), .bool false, .bool false, .slice A2 n2 c2, .int .i64 ((n2 : Nat) : Int), .int .i64 (((k + 1) + 1 : Nat) : Int), .bool true, .int .i64 (((k + 1) : Nat) : Int), .pointer (some ⟨b23, o24 + (k + 1) * 4, none⟩), .agg #[.int .i64 x21.id, .int .i64 x21.pipe, .int .i64 x21.node, .bool x21.shut], .agg #[.int .i64 m, .slice A n c], .pointer (some ⟨b31, 1, none⟩), .int .i64 x21.pipe, .int .i64 (findL ps x21.pipe), .pointer (some ⟨b31, 0, none⟩), .int .i64 x21.id, .bool true, .bool false, .bool false, .int .i64 (((k + 1) : Nat) : Int), .bool true, .bool true, .slice A2 n2 c2, .int .i64 (((k + 1) : Nat) : Int), .int .i64 ((k : Nat) : Int), .pointer (some ⟨b58, o59 + k * 4, none⟩), .pointer (some ⟨b58, o59 + k * 4, none⟩), .int .i64 x56.id, .pointer (some ⟨b31, 0, none⟩), .int .i64 x21.id, .bool false, .bool false, .bool false, .bool false, .int .i64 (findL ps x21.pipe), .bool false, .bool false, .bool false, .pointer (some ⟨b31, 2, none⟩), .int .i64 x21.node, .bool false, .bool false, .bool false, .pointer (some ⟨b2, 1, none⟩), .slice A n c, .int .i64 (findL ps x21.pipe), .pointer (some ⟨b72, o73 + ((findL ps x21.pipe).toNat) * 4, none⟩), .agg #[.int .i64 pz.id, .int .i64 pz.fr, .int .i64 pz.to, .int .i64 pz.sz], .pointer (some ⟨b31, 2, none⟩), .int .i64 x21.node, .int .i64 (otherOf pz x21.node), .bool false, .bool false, .slice A2 n2 c2, .int .i64 (((k + 1) : Nat) : Int), .slice A2 (k + 1) c2, .func (.func 62) #[] #[.pointer (some ⟨b31, 0, none⟩)], .bool false, .int .i64 (((k + 1) + 1 : Nat) : Int)].getD iU9 undef), (by kernel_rfl), rfl, (by omega), (okVTo_next hok ((okV_iff hx22).2 ⟨⟨inB_iff.1 q54, (by rw [above_next hx57]; exact decide_eq_true (by omega))⟩, endAt_of (by omega) hpz (by have h9 := (other_zero (u := x21.node) hgz.2.1.1 hgz.2.2.1.1); omega), q90⟩)), x6, c92⟩
          · refine W.sq (v := .bool false) rfl (r_gtr (m := ((K : Nat) : Int)) (n := 0) rfl (by kernel_rfl) (by kernel_rfl) (decide_eq_false q55)) (by kernel_rfl) rfl rfl ?_
            refine W.sq (v := .bool false) rfl (r_move rfl (by kernel_rfl)) (by kernel_rfl) rfl rfl ?_
            refine W.sk s51 rfl (by kernel_rfl) rfl rfl ?_
            refine W.sk s51 rfl (by kernel_rfl) rfl rfl ?_
            refine W.sk s51 rfl (by kernel_rfl) rfl rfl ?_
            refine W.sk s51 rfl (by kernel_rfl) rfl rfl ?_
            refine W.sk s51 rfl (by kernel_rfl) rfl rfl ?_
            refine W.sk s51 rfl (by kernel_rfl) rfl rfl ?_
            refine W.sk s51 rfl (by kernel_rfl) rfl rfl ?_
            refine W.sk s51 rfl (by kernel_rfl) rfl rfl ?_
            refine W.sk s51 rfl (by kernel_rfl) rfl rfl ?_
            refine W.sq (v := .bool false) rfl (r_pick (b := false) rfl (by kernel_rfl) (by kernel_rfl)) (by kernel_rfl) rfl rfl ?_
            refine W.sq (v := .bool false) rfl (r_pick (b := false) rfl (by kernel_rfl) (by kernel_rfl)) (by kernel_rfl) rfl rfl ?_
            refine W.sq (v := .bool false) rfl (r_move rfl (by kernel_rfl)) (by kernel_rfl) rfl rfl ?_
            refine W.sq (v := .int .i64 (findL ps x21.pipe)) rfl (r_move rfl (by kernel_rfl)) (by kernel_rfl) rfl rfl ?_
            by_cases q93 : (findL ps x21.pipe : Int) < (0 : Int)
            · refine W.sq (v := .bool true) rfl (r_lss (m := findL ps x21.pipe) (n := 0) rfl (by kernel_rfl) (by kernel_rfl) (decide_eq_true q93)) (by kernel_rfl) rfl rfl ?_
              refine W.sq (v := .bool true) rfl (r_pick (b := false) rfl (by kernel_rfl) (by kernel_rfl)) (by kernel_rfl) rfl rfl ?_
              refine W.sq (v := .bool true) rfl (r_move rfl (by kernel_rfl)) (by kernel_rfl) rfl rfl ?_
              refine W.sk s51 rfl (by kernel_rfl) rfl rfl ?_
              refine W.sk s51 rfl (by kernel_rfl) rfl rfl ?_
              refine W.sk s51 rfl (by kernel_rfl) rfl rfl ?_
              refine W.sq (v := .bool true) rfl (r_pick (b := true) rfl (by kernel_rfl) (by kernel_rfl)) (by kernel_rfl) rfl rfl ?_
              refine W.sq (v := .bool true) rfl (r_move rfl (by kernel_rfl)) (by kernel_rfl) rfl rfl ?_
              refine W.sk s51 rfl (by kernel_rfl) rfl rfl ?_
              refine W.sk s51 rfl (by kernel_rfl) rfl rfl ?_
              refine W.sk s51 rfl (by kernel_rfl) rfl rfl ?_
              refine W.sk s51 rfl (by kernel_rfl) rfl rfl ?_
              refine W.sk s51 rfl (by kernel_rfl) rfl rfl ?_
              refine W.sk s51 rfl (by kernel_rfl) rfl rfl ?_
              refine W.sk s51 rfl (by kernel_rfl) rfl rfl ?_
              refine W.sk s51 rfl (by kernel_rfl) rfl rfl ?_
              refine W.sk s51 rfl (by kernel_rfl) rfl rfl ?_
              refine W.sq (v := .bool true) rfl (r_pick (b := true) rfl (by kernel_rfl) (by kernel_rfl)) (by kernel_rfl) rfl rfl ?_
              refine W.sch_end (l' := [.agg #[.int .i64 m, .slice A n c], .slice A2 n2 c2, .pointer (some ⟨b2, 0, none⟩), undef, .bool false, .int .i64 ((K : Nat) : Int), .pointer (some ⟨b31, 0, none⟩), .int .i64 (findL ps x21.pipe), .agg #[.int .i64 m, .slice A n c], .bool true, .bool false, .bool false, .slice A2 n2 c2, .int .i64 ((n2 : Nat) : Int), .bool false, .bool false, .slice A2 n2 c2, .int .i64 ((n2 : Nat) : Int), .int .i64 ((K : Nat) : Int), .bool true, .int .i64 ((K : Nat) : Int), .pointer (some ⟨b23, o24 + K * 4, none⟩), .agg #[.int .i64 x21.id, .int .i64 x21.pipe, .int .i64 x21.node, .bool x21.shut], .agg #[.int .i64 m, .slice A n c], .pointer (some ⟨b31, 1, none⟩), .int .i64 x21.pipe, .int .i64 (findL ps x21.pipe), .pointer (some ⟨b31, 0, none⟩), .int .i64 x21.id, .bool true, .bool false, .bool false, .int .i64 ((K : Nat) : Int), .bool false, .bool false, undef, undef, undef, undef, undef, undef, undef, undef, undef, .bool false, .bool false, .bool false, .int .i64 (findL ps x21.pipe), .bool true, .bool true, .bool true, undef, undef, undef, .bool true, .bool true, undef, undef, undef, undef, undef, undef, undef, undef, undef, .bool true, (U0 66), (U0 67), (U0 68), (U0 69), (U0 70), (U0 71)]) (by kernel_rfl) ?_
              have x6 := SG.blk s51 x6 (by simp)
              have x41 := SG.blk s51 x41 (by simp)
              have c94 := (SG.belowR c48 s51 (fun kq e => by cases e))
              refine h14 _ _ ?_
              refine wp_cond_true (by kernel_rfl) ?_
              refine wp_seq_k (fun K21 h21 => ?_)
              refine W.region_quiet [(0, false)] (by kernel_rfl) ?_
              refine W.sq (v := .bool false) rfl (r_assign rfl (by kernel_rfl)) (by kernel_rfl) rfl rfl ?_
              refine W.sch_end (l' := [.agg #[.int .i64 m, .slice A n c], .slice A2 n2 c2, .pointer (some ⟨b2, 0, none⟩), undef, .bool false, .int .i64 ((K : Nat) : Int), .pointer (some ⟨b31, 0, none⟩), .int .i64 (findL ps x21.pipe), .agg #[.int .i64 m, .slice A n c], .bool true, .bool false, .bool false, .slice A2 n2 c2, .int .i64 ((n2 : Nat) : Int), .bool false, .bool false, .slice A2 n2 c2, .int .i64 ((n2 : Nat) : Int), .int .i64 ((K : Nat) : Int), .bool true, .int .i64 ((K : Nat) : Int), .pointer (some ⟨b23, o24 + K * 4, none⟩), .agg #[.int .i64 x21.id, .int .i64 x21.pipe, .int .i64 x21.node, .bool x21.shut], .agg #[.int .i64 m, .slice A n c], .pointer (some ⟨b31, 1, none⟩), .int .i64 x21.pipe, .int .i64 (findL ps x21.pipe), .pointer (some ⟨b31, 0, none⟩), .int .i64 x21.id, .bool true, .bool false, .bool false, .int .i64 ((K : Nat) : Int), .bool false, .bool false, undef, undef, undef, undef, undef, undef, undef, undef, undef, .bool false, .bool false, .bool false, .int .i64 (findL ps x21.pipe), .bool true, .bool true, .bool true, undef, undef, undef, .bool true, .bool true, undef, undef, undef, undef, undef, undef, undef, undef, undef, .bool true, (U0 66), (U0 67), (U0 68), (U0 69), (U0 70), (U0 71)]) (by kernel_rfl) ?_
              refine h21 _ _ ?_
              refine wp_ret ?_
              try simp only [Exit.then, Exit.inBlock]
              refine ret1 (v := .bool false) rfl (by kernel_rfl) ?_
              have e8 : okV ps vs (K) = false := Bool.eq_false_iff.2 (fun h9 => by
                have h8 := (okV_iff hx22).1 h9
                obtain ⟨⟨hA, hB⟩, hC, hD⟩ := h8
                obtain ⟨hC0, p9, hp9, hC1⟩ := endAt_pos hC
                have hg9 := (good_of q14).at hp9
                have h7 := (other_zero (u := x21.node) hg9.2.1.1 hg9.2.2.1.1)
                first | omega | (rw [inB_iff.2 hA] at q54; cases q54))
              exact ⟨ret_bool (goodV_bad (k := K) (by omega) e8).symm, c94⟩
            · refine W.sq (v := .bool false) rfl (r_lss (m := findL ps x21.pipe) (n := 0) rfl (by kernel_rfl) (by kernel_rfl) (decide_eq_false q93)) (by kernel_rfl) rfl rfl ?_
              refine W.sq (v := .bool false) rfl (r_pick (b := false) rfl (by kernel_rfl) (by kernel_rfl)) (by kernel_rfl) rfl rfl ?_
              refine W.sq (v := .bool false) rfl (r_move rfl (by kernel_rfl)) (by kernel_rfl) rfl rfl ?_
              refine W.sq (v := .pointer (some ⟨b31, 2, none⟩)) rfl (r_field (k := 2) rfl (by kernel_rfl) (by kernel_rfl)) (by kernel_rfl) rfl rfl ?_
              refine W.sq (v := .int .i64 x21.node) rfl (r_load rfl (by kernel_rfl) (by kernel_rfl) (sgS (blk_cell (j := 2) x41 (by kernel_rfl)) (by simp))) (by kernel_rfl) rfl rfl ?_
              by_cases q95 : (x21.node : Int) < (1 : Int)
              · refine W.sq (v := .bool true) rfl (r_lss (m := x21.node) (n := 1) rfl (by kernel_rfl) (by kernel_rfl) (decide_eq_true q95)) (by kernel_rfl) rfl rfl ?_
                refine W.sq (v := .bool true) rfl (r_pick (b := false) rfl (by kernel_rfl) (by kernel_rfl)) (by kernel_rfl) rfl rfl ?_
                refine W.sq (v := .bool true) rfl (r_move rfl (by kernel_rfl)) (by kernel_rfl) rfl rfl ?_
                refine W.sk s51 rfl (by kernel_rfl) rfl rfl ?_
                refine W.sk s51 rfl (by kernel_rfl) rfl rfl ?_
                refine W.sk s51 rfl (by kernel_rfl) rfl rfl ?_
                refine W.sk s51 rfl (by kernel_rfl) rfl rfl ?_
                refine W.sk s51 rfl (by kernel_rfl) rfl rfl ?_
                refine W.sk s51 rfl (by kernel_rfl) rfl rfl ?_
                refine W.sk s51 rfl (by kernel_rfl) rfl rfl ?_
                refine W.sk s51 rfl (by kernel_rfl) rfl rfl ?_
                refine W.sk s51 rfl (by kernel_rfl) rfl rfl ?_
                refine W.sq (v := .bool true) rfl (r_pick (b := true) rfl (by kernel_rfl) (by kernel_rfl)) (by kernel_rfl) rfl rfl ?_
                refine W.sch_end (l' := [.agg #[.int .i64 m, .slice A n c], .slice A2 n2 c2, .pointer (some ⟨b2, 0, none⟩), undef, .bool false, .int .i64 ((K : Nat) : Int), .pointer (some ⟨b31, 0, none⟩), .int .i64 (findL ps x21.pipe), .agg #[.int .i64 m, .slice A n c], .bool true, .bool false, .bool false, .slice A2 n2 c2, .int .i64 ((n2 : Nat) : Int), .bool false, .bool false, .slice A2 n2 c2, .int .i64 ((n2 : Nat) : Int), .int .i64 ((K : Nat) : Int), .bool true, .int .i64 ((K : Nat) : Int), .pointer (some ⟨b23, o24 + K * 4, none⟩), .agg #[.int .i64 x21.id, .int .i64 x21.pipe, .int .i64 x21.node, .bool x21.shut], .agg #[.int .i64 m, .slice A n c], .pointer (some ⟨b31, 1, none⟩), .int .i64 x21.pipe, .int .i64 (findL ps x21.pipe), .pointer (some ⟨b31, 0, none⟩), .int .i64 x21.id, .bool true, .bool false, .bool false, .int .i64 ((K : Nat) : Int), .bool false, .bool false, undef, undef, undef, undef, undef, undef, undef, undef, undef, .bool false, .bool false, .bool false, .int .i64 (findL ps x21.pipe), .bool false, .bool false, .bool false, .pointer (some ⟨b31, 2, none⟩), .int .i64 x21.node, .bool true, .bool true, .bool true, undef, undef, undef, undef, undef, undef, undef, undef, undef, .bool true, (U0 66), (U0 67), (U0 68), (U0 69), (U0 70), (U0 71)]) (by kernel_rfl) ?_
                have x6 := SG.blk s51 x6 (by simp)
                have x41 := SG.blk s51 x41 (by simp)
                have c96 := (SG.belowR c48 s51 (fun kq e => by cases e))
                refine h14 _ _ ?_
                refine wp_cond_true (by kernel_rfl) ?_
                refine wp_seq_k (fun K22 h22 => ?_)
                refine W.region_quiet [(0, false)] (by kernel_rfl) ?_
                refine W.sq (v := .bool false) rfl (r_assign rfl (by kernel_rfl)) (by kernel_rfl) rfl rfl ?_
                refine W.sch_end (l' := [.agg #[.int .i64 m, .slice A n c], .slice A2 n2 c2, .pointer (some ⟨b2, 0, none⟩), undef, .bool false, .int .i64 ((K : Nat) : Int), .pointer (some ⟨b31, 0, none⟩), .int .i64 (findL ps x21.pipe), .agg #[.int .i64 m, .slice A n c], .bool true, .bool false, .bool false, .slice A2 n2 c2, .int .i64 ((n2 : Nat) : Int), .bool false, .bool false, .slice A2 n2 c2, .int .i64 ((n2 : Nat) : Int), .int .i64 ((K : Nat) : Int), .bool true, .int .i64 ((K : Nat) : Int), .pointer (some ⟨b23, o24 + K * 4, none⟩), .agg #[.int .i64 x21.id, .int .i64 x21.pipe, .int .i64 x21.node, .bool x21.shut], .agg #[.int .i64 m, .slice A n c], .pointer (some ⟨b31, 1, none⟩), .int .i64 x21.pipe, .int .i64 (findL ps x21.pipe), .pointer (some ⟨b31, 0, none⟩), .int .i64 x21.id, .bool true, .bool false, .bool false, .int .i64 ((K : Nat) : Int), .bool false, .bool false, undef, undef, undef, undef, undef, undef, undef, undef, undef, .bool false, .bool false, .bool false, .int .i64 (findL ps x21.pipe), .bool false, .bool false, .bool false, .pointer (some ⟨b31, 2, none⟩), .int .i64 x21.node, .bool true, .bool true, .bool true, undef, undef, undef, undef, undef, undef, undef, undef, undef, .bool true, (U0 66), (U0 67), (U0 68), (U0 69), (U0 70), (U0 71)]) (by kernel_rfl) ?_
                refine h22 _ _ ?_
                refine wp_ret ?_
                try simp only [Exit.then, Exit.inBlock]
                refine ret1 (v := .bool false) rfl (by kernel_rfl) ?_
                have e8 : okV ps vs (K) = false := Bool.eq_false_iff.2 (fun h9 => by
                  have h8 := (okV_iff hx22).1 h9
                  obtain ⟨⟨hA, hB⟩, hC, hD⟩ := h8
                  obtain ⟨hC0, p9, hp9, hC1⟩ := endAt_pos hC
                  have hg9 := (good_of q14).at hp9
                  have h7 := (other_zero (u := x21.node) hg9.2.1.1 hg9.2.2.1.1)
                  first | omega | (rw [inB_iff.2 hA] at q54; cases q54))
                exact ⟨ret_bool (goodV_bad (k := K) (by omega) e8).symm, c96⟩
              · refine W.sq (v := .bool false) rfl (r_lss (m := x21.node) (n := 1) rfl (by kernel_rfl) (by kernel_rfl) (decide_eq_false q95)) (by kernel_rfl) rfl rfl ?_
                refine W.sq (v := .bool false) rfl (r_pick (b := false) rfl (by kernel_rfl) (by kernel_rfl)) (by kernel_rfl) rfl rfl ?_
                refine W.sq (v := .bool false) rfl (r_move rfl (by kernel_rfl)) (by kernel_rfl) rfl rfl ?_
                refine W.sq (v := .pointer (some ⟨b2, 1, none⟩)) rfl (r_field (k := 1) rfl (by kernel_rfl) (by kernel_rfl)) (by kernel_rfl) rfl rfl ?_
                refine W.sq (v := .slice A n c) rfl (r_load rfl (by kernel_rfl) (by kernel_rfl) (sgS (blk_cell (j := 1) x6 (by kernel_rfl)) (by simp))) (by kernel_rfl) rfl rfl ?_
                refine W.sq (v := .int .i64 (findL ps x21.pipe)) rfl (r_move rfl (by kernel_rfl)) (by kernel_rfl) rfl rfl ?_
                have hfl := findL_lt ps x21.pipe
                obtain ⟨pz, hpz⟩ := get_of (zs := ps) (k := (findL ps x21.pipe).toNat) (by omega)
                have hgz := (good_of q14).at hpz
                obtain ⟨b97, o98, hA99, hb100, hc101, hc102, hc103, hc104⟩ := Rd.elPipe ha hpz
                refine W.sq (v := .pointer (some ⟨b97, o98 + ((findL ps x21.pipe).toNat) * 4, none⟩)) rfl (r_idx (n := n) (c := c) (k := (findL ps x21.pipe).toNat) rfl (by kernel_rfl) hA99 (evk (z := findL ps x21.pipe) (by kernel_rfl) (by omega)) (by kernel_rfl) (by have := hl; omega)) (by kernel_rfl) rfl rfl ?_
                refine W.sq (v := .agg #[.int .i64 pz.id, .int .i64 pz.fr, .int .i64 pz.to, .int .i64 pz.sz]) rfl (r_load4 rfl (by kernel_rfl) (by kernel_rfl) (by kernel_rfl) (sgS (later c48 hc101) (by simp)) (sgS (later c48 hc102) (by simp)) (sgS (later c48 hc103) (by simp)) (sgS (later c48 hc104) (by simp))) (by kernel_rfl) rfl rfl ?_
                refine W.sq (v := .pointer (some ⟨b31, 2, none⟩)) rfl (r_field (k := 2) rfl (by kernel_rfl) (by kernel_rfl)) (by kernel_rfl) rfl rfl ?_
                refine W.sq (v := .int .i64 x21.node) rfl (r_load rfl (by kernel_rfl) (by kernel_rfl) (sgS (blk_cell (j := 2) x41 (by kernel_rfl)) (by simp))) (by kernel_rfl) rfl rfl ?_
                refine W.sc (vs := [.agg #[.int .i64 pz.id, .int .i64 pz.fr, .int .i64 pz.to, .int .i64 pz.sz], .int .i64 x21.node]) rfl rfl (by kernel_rfl) (by kernel_rfl) (by kernel_rfl) rfl (other_any pz x21.node _) ?_
                rintro e w106 ⟨rfl, b105⟩
                have s107 := SG.of_below s51 b105
                refine ⟨_, rfl, s107, ?_⟩
                by_cases q108 : (otherOf pz x21.node : Int) = (0 : Int)
                · refine W.sq (v := .bool true) rfl (r_eql (m := otherOf pz x21.node) (n := 0) rfl (by kernel_rfl) (by kernel_rfl) (decide_eq_true q108)) (by kernel_rfl) rfl rfl ?_
                  refine W.sq (v := .bool true) rfl (r_pick (b := false) rfl (by kernel_rfl) (by kernel_rfl)) (by kernel_rfl) rfl rfl ?_
                  refine W.sch_end (l' := [.agg #[.int .i64 m, .slice A n c], .slice A2 n2 c2, .pointer (some ⟨b2, 0, none⟩), undef, .bool false, .int .i64 ((K : Nat) : Int), .pointer (some ⟨b31, 0, none⟩), .int .i64 (findL ps x21.pipe), .agg #[.int .i64 m, .slice A n c], .bool true, .bool false, .bool false, .slice A2 n2 c2, .int .i64 ((n2 : Nat) : Int), .bool false, .bool false, .slice A2 n2 c2, .int .i64 ((n2 : Nat) : Int), .int .i64 ((K : Nat) : Int), .bool true, .int .i64 ((K : Nat) : Int), .pointer (some ⟨b23, o24 + K * 4, none⟩), .agg #[.int .i64 x21.id, .int .i64 x21.pipe, .int .i64 x21.node, .bool x21.shut], .agg #[.int .i64 m, .slice A n c], .pointer (some ⟨b31, 1, none⟩), .int .i64 x21.pipe, .int .i64 (findL ps x21.pipe), .pointer (some ⟨b31, 0, none⟩), .int .i64 x21.id, .bool true, .bool false, .bool false, .int .i64 ((K : Nat) : Int), .bool false, .bool false, undef, undef, undef, undef, undef, undef, undef, undef, undef, .bool false, .bool false, .bool false, .int .i64 (findL ps x21.pipe), .bool false, .bool false, .bool false, .pointer (some ⟨b31, 2, none⟩), .int .i64 x21.node, .bool false, .bool false, .bool false, .pointer (some ⟨b2, 1, none⟩), .slice A n c, .int .i64 (findL ps x21.pipe), .pointer (some ⟨b97, o98 + ((findL ps x21.pipe).toNat) * 4, none⟩), .agg #[.int .i64 pz.id, .int .i64 pz.fr, .int .i64 pz.to, .int .i64 pz.sz], .pointer (some ⟨b31, 2, none⟩), .int .i64 x21.node, .int .i64 (otherOf pz x21.node), .bool true, .bool true, (U0 66), (U0 67), (U0 68), (U0 69), (U0 70), (U0 71)]) (by kernel_rfl) ?_
                  have x6 := SG.blk s107 x6 (by simp)
                  have x41 := SG.blk s107 x41 (by simp)
                  have c109 := (SG.belowR c48 s107 (fun kq e => by cases e))
                  refine h14 _ _ ?_
                  refine wp_cond_true (by kernel_rfl) ?_
                  refine wp_seq_k (fun K23 h23 => ?_)
                  refine W.region_quiet [(0, false)] (by kernel_rfl) ?_
                  refine W.sq (v := .bool false) rfl (r_assign rfl (by kernel_rfl)) (by kernel_rfl) rfl rfl ?_
                  refine W.sch_end (l' := [.agg #[.int .i64 m, .slice A n c], .slice A2 n2 c2, .pointer (some ⟨b2, 0, none⟩), undef, .bool false, .int .i64 ((K : Nat) : Int), .pointer (some ⟨b31, 0, none⟩), .int .i64 (findL ps x21.pipe), .agg #[.int .i64 m, .slice A n c], .bool true, .bool false, .bool false, .slice A2 n2 c2, .int .i64 ((n2 : Nat) : Int), .bool false, .bool false, .slice A2 n2 c2, .int .i64 ((n2 : Nat) : Int), .int .i64 ((K : Nat) : Int), .bool true, .int .i64 ((K : Nat) : Int), .pointer (some ⟨b23, o24 + K * 4, none⟩), .agg #[.int .i64 x21.id, .int .i64 x21.pipe, .int .i64 x21.node, .bool x21.shut], .agg #[.int .i64 m, .slice A n c], .pointer (some ⟨b31, 1, none⟩), .int .i64 x21.pipe, .int .i64 (findL ps x21.pipe), .pointer (some ⟨b31, 0, none⟩), .int .i64 x21.id, .bool true, .bool false, .bool false, .int .i64 ((K : Nat) : Int), .bool false, .bool false, undef, undef, undef, undef, undef, undef, undef, undef, undef, .bool false, .bool false, .bool false, .int .i64 (findL ps x21.pipe), .bool false, .bool false, .bool false, .pointer (some ⟨b31, 2, none⟩), .int .i64 x21.node, .bool false, .bool false, .bool false, .pointer (some ⟨b2, 1, none⟩), .slice A n c, .int .i64 (findL ps x21.pipe), .pointer (some ⟨b97, o98 + ((findL ps x21.pipe).toNat) * 4, none⟩), .agg #[.int .i64 pz.id, .int .i64 pz.fr, .int .i64 pz.to, .int .i64 pz.sz], .pointer (some ⟨b31, 2, none⟩), .int .i64 x21.node, .int .i64 (otherOf pz x21.node), .bool true, .bool true, (U0 66), (U0 67), (U0 68), (U0 69), (U0 70), (U0 71)]) (by kernel_rfl) ?_
                  refine h23 _ _ ?_
                  refine wp_ret ?_
                  try simp only [Exit.then, Exit.inBlock]
                  refine ret1 (v := .bool false) rfl (by kernel_rfl) ?_
                  have e8 : okV ps vs (K) = false := Bool.eq_false_iff.2 (fun h9 => by
                    have h8 := (okV_iff hx22).1 h9
                    obtain ⟨⟨hA, hB⟩, hC, hD⟩ := h8
                    obtain ⟨hC0, p9, hp9, hC1⟩ := endAt_pos hC
                    have hg9 := (good_of q14).at hp9
                    have h7 := (other_zero (u := x21.node) hg9.2.1.1 hg9.2.2.1.1)
                    obtain rfl := Option.some.inj (hp9.symm.trans hpz)
                    first | omega | (rw [inB_iff.2 hA] at q54; cases q54))
                  exact ⟨ret_bool (goodV_bad (k := K) (by omega) e8).symm, c109⟩
                · refine W.sq (v := .bool false) rfl (r_eql (m := otherOf pz x21.node) (n := 0) rfl (by kernel_rfl) (by kernel_rfl) (decide_eq_false q108)) (by kernel_rfl) rfl rfl ?_
                  refine W.sq (v := .bool false) rfl (r_pick (b := false) rfl (by kernel_rfl) (by kernel_rfl)) (by kernel_rfl) rfl rfl ?_
                  refine W.sch_end (l' := [.agg #[.int .i64 m, .slice A n c], .slice A2 n2 c2, .pointer (some ⟨b2, 0, none⟩), undef, .bool false, .int .i64 ((K : Nat) : Int), .pointer (some ⟨b31, 0, none⟩), .int .i64 (findL ps x21.pipe), .agg #[.int .i64 m, .slice A n c], .bool true, .bool false, .bool false, .slice A2 n2 c2, .int .i64 ((n2 : Nat) : Int), .bool false, .bool false, .slice A2 n2 c2, .int .i64 ((n2 : Nat) : Int), .int .i64 ((K : Nat) : Int), .bool true, .int .i64 ((K : Nat) : Int), .pointer (some ⟨b23, o24 + K * 4, none⟩), .agg #[.int .i64 x21.id, .int .i64 x21.pipe, .int .i64 x21.node, .bool x21.shut], .agg #[.int .i64 m, .slice A n c], .pointer (some ⟨b31, 1, none⟩), .int .i64 x21.pipe, .int .i64 (findL ps x21.pipe), .pointer (some ⟨b31, 0, none⟩), .int .i64 x21.id, .bool true, .bool false, .bool false, .int .i64 ((K : Nat) : Int), .bool false, .bool false, undef, undef, undef, undef, undef, undef, undef, undef, undef, .bool false, .bool false, .bool false, .int .i64 (findL ps x21.pipe), .bool false, .bool false, .bool false, .pointer (some ⟨b31, 2, none⟩), .int .i64 x21.node, .bool false, .bool false, .bool false, .pointer (some ⟨b2, 1, none⟩), .slice A n c, .int .i64 (findL ps x21.pipe), .pointer (some ⟨b97, o98 + ((findL ps x21.pipe).toNat) * 4, none⟩), .agg #[.int .i64 pz.id, .int .i64 pz.fr, .int .i64 pz.to, .int .i64 pz.sz], .pointer (some ⟨b31, 2, none⟩), .int .i64 x21.node, .int .i64 (otherOf pz x21.node), .bool false, .bool false, (U0 66), (U0 67), (U0 68), (U0 69), (U0 70), (U0 71)]) (by kernel_rfl) ?_
                  have x6 := SG.blk s107 x6 (by simp)
                  have x41 := SG.blk s107 x41 (by simp)
                  have c110 := (SG.belowR c48 s107 (fun kq e => by cases e))
                  refine h14 _ _ ?_
                  refine wp_cond_false (by kernel_rfl) ?_
                  refine wp_skip ?_
                  refine h13 _ _ ?_
                  refine wp_seq_k (fun K24 h24 => ?_)
                  refine W.region_plain (row := none) [(0, false), (1, false), (2, false), (3, false), (4, true)] (by kernel_rfl) ?_
                  have s111 := SG.self w106 none
                  refine W.sq (v := .slice A2 n2 c2) rfl (r_move rfl (by kernel_rfl)) (by kernel_rfl) rfl rfl ?_
                  refine W.sq (v := .int .i64 ((K : Nat) : Int)) rfl (r_move rfl (by kernel_rfl)) (by kernel_rfl) rfl rfl ?_
                  refine W.sq (v := .slice A2 K c2) rfl (r_sliceTo (A := A2) (n := n2) (c := c2) (k := K) (size := 4) rfl (by kernel_rfl) (by kernel_rfl) (by kernel_rfl) (by have := (hfm2).le; omega)) (by kernel_rfl) rfl rfl ?_
                  refine W.sq (v := .func (.func 62) #[] #[.pointer (some ⟨b31, 0, none⟩)]) rfl (r_makeFunc (vs := [.pointer (some ⟨b31, 0, none⟩)]) rfl (by kernel_rfl)) (by kernel_rfl) rfl rfl ?_
                  refine W.sc (vs := [.slice A2 K c2, .func (.func 62) #[] #[.pointer (some ⟨b31, 0, none⟩)]]) rfl rfl (by kernel_rfl) (by kernel_rfl) (by kernel_rfl) rfl (anyV_any A2 K c2 (vs.take K) 62 #[.pointer (some ⟨b31, 0, none⟩)] (fun v => decide (v.pipe = x21.pipe) && decide (v.node = x21.node)) _ (Rd.toV (Rd.kept hb (SG.belowR c110 s111 (fun kq e => by cases e))) (by omega)) (by omega) (by kernel_rfl) (fun W v hW => validF_any v x21 b31 W ((hW.block _ (blk_lt x41)).trans x41))) ?_
                  rintro e w113 ⟨rfl, b112⟩
                  have s114 := SG.of_below s111 b112
                  refine ⟨_, rfl, s114, ?_⟩
                  rcases Bool.eq_false_or_eq_true ((vs.take K).any (fun v => decide (v.pipe = x21.pipe) && decide (v.node = x21.node))) with q115 | q115
                  · rw [q115]
                    refine W.sch_end (l' := [.agg #[.int .i64 m, .slice A n c], .slice A2 n2 c2, .pointer (some ⟨b2, 0, none⟩), undef, .bool false, .int .i64 ((K : Nat) : Int), .pointer (some ⟨b31, 0, none⟩), .int .i64 (findL ps x21.pipe), .agg #[.int .i64 m, .slice A n c], .bool true, .bool false, .bool false, .slice A2 n2 c2, .int .i64 ((n2 : Nat) : Int), .bool false, .bool false, .slice A2 n2 c2, .int .i64 ((n2 : Nat) : Int), .int .i64 ((K : Nat) : Int), .bool true, .int .i64 ((K : Nat) : Int), .pointer (some ⟨b23, o24 + K * 4, none⟩), .agg #[.int .i64 x21.id, .int .i64 x21.pipe, .int .i64 x21.node, .bool x21.shut], .agg #[.int .i64 m, .slice A n c], .pointer (some ⟨b31, 1, none⟩), .int .i64 x21.pipe, .int .i64 (findL ps x21.pipe), .pointer (some ⟨b31, 0, none⟩), .int .i64 x21.id, .bool true, .bool false, .bool false, .int .i64 ((K : Nat) : Int), .bool false, .bool false, undef, undef, undef, undef, undef, undef, undef, undef, undef, .bool false, .bool false, .bool false, .int .i64 (findL ps x21.pipe), .bool false, .bool false, .bool false, .pointer (some ⟨b31, 2, none⟩), .int .i64 x21.node, .bool false, .bool false, .bool false, .pointer (some ⟨b2, 1, none⟩), .slice A n c, .int .i64 (findL ps x21.pipe), .pointer (some ⟨b97, o98 + ((findL ps x21.pipe).toNat) * 4, none⟩), .agg #[.int .i64 pz.id, .int .i64 pz.fr, .int .i64 pz.to, .int .i64 pz.sz], .pointer (some ⟨b31, 2, none⟩), .int .i64 x21.node, .int .i64 (otherOf pz x21.node), .bool false, .bool false, .slice A2 n2 c2, .int .i64 ((K : Nat) : Int), .slice A2 K c2, .func (.func 62) #[] #[.pointer (some ⟨b31, 0, none⟩)], .bool true, (U0 71)]) (by kernel_rfl) ?_
                    have x6 := SG.blk s114 x6 (by simp)
                    have x41 := SG.blk s114 x41 (by simp)
                    have c116 := (SG.belowR c110 s114 (fun kq e => by cases e))
                    refine h24 _ _ ?_
                    refine wp_cond_true (by kernel_rfl) ?_
                    refine wp_seq_k (fun K25 h25 => ?_)
                    refine W.region_quiet [(0, false)] (by kernel_rfl) ?_
                    refine W.sq (v := .bool false) rfl (r_assign rfl (by kernel_rfl)) (by kernel_rfl) rfl rfl ?_
                    refine W.sch_end (l' := [.agg #[.int .i64 m, .slice A n c], .slice A2 n2 c2, .pointer (some ⟨b2, 0, none⟩), undef, .bool false, .int .i64 ((K : Nat) : Int), .pointer (some ⟨b31, 0, none⟩), .int .i64 (findL ps x21.pipe), .agg #[.int .i64 m, .slice A n c], .bool true, .bool false, .bool false, .slice A2 n2 c2, .int .i64 ((n2 : Nat) : Int), .bool false, .bool false, .slice A2 n2 c2, .int .i64 ((n2 : Nat) : Int), .int .i64 ((K : Nat) : Int), .bool true, .int .i64 ((K : Nat) : Int), .pointer (some ⟨b23, o24 + K * 4, none⟩), .agg #[.int .i64 x21.id, .int .i64 x21.pipe, .int .i64 x21.node, .bool x21.shut], .agg #[.int .i64 m, .slice A n c], .pointer (some ⟨b31, 1, none⟩), .int .i64 x21.pipe, .int .i64 (findL ps x21.pipe), .pointer (some ⟨b31, 0, none⟩), .int .i64 x21.id, .bool true, .bool false, .bool false, .int .i64 ((K : Nat) : Int), .bool false, .bool false, undef, undef, undef, undef, undef, undef, undef, undef, undef, .bool false, .bool false, .bool false, .int .i64 (findL ps x21.pipe), .bool false, .bool false, .bool false, .pointer (some ⟨b31, 2, none⟩), .int .i64 x21.node, .bool false, .bool false, .bool false, .pointer (some ⟨b2, 1, none⟩), .slice A n c, .int .i64 (findL ps x21.pipe), .pointer (some ⟨b97, o98 + ((findL ps x21.pipe).toNat) * 4, none⟩), .agg #[.int .i64 pz.id, .int .i64 pz.fr, .int .i64 pz.to, .int .i64 pz.sz], .pointer (some ⟨b31, 2, none⟩), .int .i64 x21.node, .int .i64 (otherOf pz x21.node), .bool false, .bool false, .slice A2 n2 c2, .int .i64 ((K : Nat) : Int), .slice A2 K c2, .func (.func 62) #[] #[.pointer (some ⟨b31, 0, none⟩)], .bool true, (U0 71)]) (by kernel_rfl) ?_
                    refine h25 _ _ ?_
                    refine wp_ret ?_
                    try simp only [Exit.then, Exit.inBlock]
                    refine ret1 (v := .bool false) rfl (by kernel_rfl) ?_
                    have e8 : okV ps vs (K) = false := Bool.eq_false_iff.2 (fun h9 => by
                      have h8 := (okV_iff hx22).1 h9
                      obtain ⟨⟨hA, hB⟩, hC, hD⟩ := h8
                      obtain ⟨hC0, p9, hp9, hC1⟩ := endAt_pos hC
                      have hg9 := (good_of q14).at hp9
                      have h7 := (other_zero (u := x21.node) hg9.2.1.1 hg9.2.2.1.1)
                      obtain rfl := Option.some.inj (hp9.symm.trans hpz)
                      exact absurd (show placed (vs.take (K)) x21.pipe x21.node = true from q115) (by rw [hD]; simp))
                    exact ⟨ret_bool (goodV_bad (k := K) (by omega) e8).symm, c116⟩
                  · rw [q115]
                    refine W.sch_end (l' := [.agg #[.int .i64 m, .slice A n c], .slice A2 n2 c2, .pointer (some ⟨b2, 0, none⟩), undef, .bool false, .int .i64 ((K : Nat) : Int), .pointer (some ⟨b31, 0, none⟩), .int .i64 (findL ps x21.pipe), .agg #[.int .i64 m, .slice A n c], .bool true, .bool false, .bool false, .slice A2 n2 c2, .int .i64 ((n2 : Nat) : Int), .bool false, .bool false, .slice A2 n2 c2, .int .i64 ((n2 : Nat) : Int), .int .i64 ((K : Nat) : Int), .bool true, .int .i64 ((K : Nat) : Int), .pointer (some ⟨b23, o24 + K * 4, none⟩), .agg #[.int .i64 x21.id, .int .i64 x21.pipe, .int .i64 x21.node, .bool x21.shut], .agg #[.int .i64 m, .slice A n c], .pointer (some ⟨b31, 1, none⟩), .int .i64 x21.pipe, .int .i64 (findL ps x21.pipe), .pointer (some ⟨b31, 0, none⟩), .int .i64 x21.id, .bool true, .bool false, .bool false, .int .i64 ((K : Nat) : Int), .bool false, .bool false, undef, undef, undef, undef, undef, undef, undef, undef, undef, .bool false, .bool false, .bool false, .int .i64 (findL ps x21.pipe), .bool false, .bool false, .bool false, .pointer (some ⟨b31, 2, none⟩), .int .i64 x21.node, .bool false, .bool false, .bool false, .pointer (some ⟨b2, 1, none⟩), .slice A n c, .int .i64 (findL ps x21.pipe), .pointer (some ⟨b97, o98 + ((findL ps x21.pipe).toNat) * 4, none⟩), .agg #[.int .i64 pz.id, .int .i64 pz.fr, .int .i64 pz.to, .int .i64 pz.sz], .pointer (some ⟨b31, 2, none⟩), .int .i64 x21.node, .int .i64 (otherOf pz x21.node), .bool false, .bool false, .slice A2 n2 c2, .int .i64 ((K : Nat) : Int), .slice A2 K c2, .func (.func 62) #[] #[.pointer (some ⟨b31, 0, none⟩)], .bool false, (U0 71)]) (by kernel_rfl) ?_
                    have x6 := SG.blk s114 x6 (by simp)
                    have x41 := SG.blk s114 x41 (by simp)
                    have c117 := (SG.belowR c110 s114 (fun kq e => by cases e))
                    refine h24 _ _ ?_
                    refine wp_cond_false (by kernel_rfl) ?_
                    refine wp_skip ?_
                    refine h10 _ _ ?_
                    refine W.region_quiet [(0, false), (1, false)] (by kernel_rfl) ?_
                    refine W.sq (v := .int .i64 ((K + 1 : Nat) : Int)) rfl (r_add (m := ((K : Nat) : Int)) (n := 1) (z := ((K + 1 : Nat) : Int)) rfl (by kernel_rfl) (by kernel_rfl) (by omega) (by omega)) (by kernel_rfl) rfl rfl ?_
                    refine W.sq (v := .int .i64 ((K + 1 : Nat) : Int)) rfl (r_move rfl (by kernel_rfl)) (by kernel_rfl) rfl rfl ?_
                    refine W.sch_end (l' := [.agg #[.int .i64 m, .slice A n c], .slice A2 n2 c2, .pointer (some ⟨b2, 0, none⟩), undef, .bool false, .int .i64 ((K : Nat) : Int), .pointer (some ⟨b31, 0, none⟩), .int .i64 (findL ps x21.pipe), .agg #[.int .i64 m, .slice A n c], .bool true, .bool false, .bool false, .slice A2 n2 c2, .int .i64 ((n2 : Nat) : Int), .bool false, .bool false, .slice A2 n2 c2, .int .i64 ((n2 : Nat) : Int), .int .i64 ((K + 1 : Nat) : Int), .bool true, .int .i64 ((K : Nat) : Int), .pointer (some ⟨b23, o24 + K * 4, none⟩), .agg #[.int .i64 x21.id, .int .i64 x21.pipe, .int .i64 x21.node, .bool x21.shut], .agg #[.int .i64 m, .slice A n c], .pointer (some ⟨b31, 1, none⟩), .int .i64 x21.pipe, .int .i64 (findL ps x21.pipe), .pointer (some ⟨b31, 0, none⟩), .int .i64 x21.id, .bool true, .bool false, .bool false, .int .i64 ((K : Nat) : Int), .bool false, .bool false, undef, undef, undef, undef, undef, undef, undef, undef, undef, .bool false, .bool false, .bool false, .int .i64 (findL ps x21.pipe), .bool false, .bool false, .bool false, .pointer (some ⟨b31, 2, none⟩), .int .i64 x21.node, .bool false, .bool false, .bool false, .pointer (some ⟨b2, 1, none⟩), .slice A n c, .int .i64 (findL ps x21.pipe), .pointer (some ⟨b97, o98 + ((findL ps x21.pipe).toNat) * 4, none⟩), .agg #[.int .i64 pz.id, .int .i64 pz.fr, .int .i64 pz.to, .int .i64 pz.sz], .pointer (some ⟨b31, 2, none⟩), .int .i64 x21.node, .int .i64 (otherOf pz x21.node), .bool false, .bool false, .slice A2 n2 c2, .int .i64 ((K : Nat) : Int), .slice A2 K c2, .func (.func 62) #[] #[.pointer (some ⟨b31, 0, none⟩)], .bool false, .int .i64 ((K + 1 : Nat) : Int)]) (by kernel_rfl) ?_
                    exact h7 _ _ _ (by omega : (n2 - (K + 1)) < _) ⟨K + 1, (fun iU9 => [.agg #[.int .i64 m, .slice A n c], .slice A2 n2 c2, .pointer (some ⟨b2, 0, none⟩), undef, .bool false, .int .i64 ((K : Nat) : Int), .pointer (some ⟨b31, 0, none⟩), .int .i64 (findL ps x21.pipe), .agg #[.int .i64 m, .slice A n c], .bool true, .bool false, .bool false, .slice A2 n2 c2, .int .i64 ((n2 : Nat) : Int), .bool false, .bool false, .slice A2 n2 c2, .int .i64 ((n2 : Nat) : Int), .int .i64 ((K + 1 : Nat) : Int), .bool true, .int .i64 ((K : Nat) : Int), .pointer (some ⟨b23, o24 + K * 4, none⟩), .agg #[.int .i64 x21.id, .int .i64 x21.pipe, .int .i64 x21.node, .bool x21.shut], .agg #[.int .i64 m, .slice A n c], .pointer (some ⟨b31, 1, none⟩), .int .i64 x21.pipe, .int .i64 (findL ps x21.pipe), .pointer (some ⟨b31, 0, none⟩), .int .i64 x21.id, .bool true, .bool false, .bool false, .int .i64 ((K : Nat) : Int), .bool false, .bool false, undef, undef, undef, undef, undef, undef, undef, undef, undef, .bool false, .bool false, .bool false, .int .i64 (findL ps x21.pipe), .bool false, .bool false, .bool false, .pointer (some ⟨b31, 2, none⟩), .int .i64 x21.node, .bool false, .bool false, .bool false, .pointer (some ⟨b2, 1, none⟩), .slice A n c, .int .i64 (findL ps x21.pipe), .pointer (some ⟨b97, o98 + ((findL ps x21.pipe).toNat) * 4, none⟩), .agg #[.int .i64 pz.id, .int .i64 pz.fr, .int .i64 pz.to, .int .i64 pz.sz], .pointer (some ⟨b31, 2, none⟩), .int .i64 x21.node, .int .i64 (otherOf pz x21.node), .bool false, .bool false, .slice A2 n2 c2, .int .i64 ((K : Nat) : Int), .slice A2 K c2, .func (.func 62) #[] #[.pointer (some ⟨b31, 0, none⟩)], .bool false, .int .i64 ((K + 1 : Nat) : Int)].getD iU9 undef), (by kernel_rfl), rfl, (by omega), (okVTo_next hok ((okV_iff hx22).2 ⟨⟨inB_iff.1 q54, (by have e0 : K = 0 := (by omega); subst e0; exact above_zero)⟩, endAt_of (by omega) hpz (by have h9 := (other_zero (u := x21.node) hgz.2.1.1 hgz.2.2.1.1); omega), q115⟩)), x6, c117⟩
        · rw [q54]
          refine W.sq (v := .bool true) rfl (r_not (b := false) rfl (by kernel_rfl) rfl) (by kernel_rfl) rfl rfl ?_
          refine W.sq (v := .bool true) rfl (r_move rfl (by kernel_rfl)) (by kernel_rfl) rfl rfl ?_
          refine W.sk s51 rfl (by kernel_rfl) rfl rfl ?_
          refine W.sk s51 rfl (by kernel_rfl) rfl rfl ?_
          refine W.sk s51 rfl (by kernel_rfl) rfl rfl ?_
          refine W.sk s51 rfl (by kernel_rfl) rfl rfl ?_
          refine W.sk s51 rfl (by kernel_rfl) rfl rfl ?_
          refine W.sk s51 rfl (by kernel_rfl) rfl rfl ?_
          refine W.sk s51 rfl (by kernel_rfl) rfl rfl ?_
          refine W.sk s51 rfl (by kernel_rfl) rfl rfl ?_
          refine W.sk s51 rfl (by kernel_rfl) rfl rfl ?_
          refine W.sk s51 rfl (by kernel_rfl) rfl rfl ?_
          refine W.sk s51 rfl (by kernel_rfl) rfl rfl ?_
          refine W.sk s51 rfl (by kernel_rfl) rfl rfl ?_
          refine W.sk s51 rfl (by kernel_rfl) rfl rfl ?_
          refine W.sq (v := .bool true) rfl (r_pick (b := true) rfl (by kernel_rfl) (by kernel_rfl)) (by kernel_rfl) rfl rfl ?_
          refine W.sq (v := .bool true) rfl (r_move rfl (by kernel_rfl)) (by kernel_rfl) rfl rfl ?_
          refine W.sk s51 rfl (by kernel_rfl) rfl rfl ?_
          refine W.sk s51 rfl (by kernel_rfl) rfl rfl ?_
          refine W.sq (v := .bool true) rfl (r_pick (b := true) rfl (by kernel_rfl) (by kernel_rfl)) (by kernel_rfl) rfl rfl ?_
          refine W.sq (v := .bool true) rfl (r_move rfl (by kernel_rfl)) (by kernel_rfl) rfl rfl ?_
          refine W.sk s51 rfl (by kernel_rfl) rfl rfl ?_
          refine W.sk s51 rfl (by kernel_rfl) rfl rfl ?_
          refine W.sk s51 rfl (by kernel_rfl) rfl rfl ?_
          refine W.sq (v := .bool true) rfl (r_pick (b := true) rfl (by kernel_rfl) (by kernel_rfl)) (by kernel_rfl) rfl rfl ?_
          refine W.sq (v := .bool true) rfl (r_move rfl (by kernel_rfl)) (by kernel_rfl) rfl rfl ?_
          refine W.sk s51 rfl (by kernel_rfl) rfl rfl ?_
          refine W.sk s51 rfl (by kernel_rfl) rfl rfl ?_
          refine W.sk s51 rfl (by kernel_rfl) rfl rfl ?_
          refine W.sk s51 rfl (by kernel_rfl) rfl rfl ?_
          refine W.sk s51 rfl (by kernel_rfl) rfl rfl ?_
          refine W.sk s51 rfl (by kernel_rfl) rfl rfl ?_
          refine W.sk s51 rfl (by kernel_rfl) rfl rfl ?_
          refine W.sk s51 rfl (by kernel_rfl) rfl rfl ?_
          refine W.sk s51 rfl (by kernel_rfl) rfl rfl ?_
          refine W.sq (v := .bool true) rfl (r_pick (b := true) rfl (by kernel_rfl) (by kernel_rfl)) (by kernel_rfl) rfl rfl ?_
          refine W.sch_end (l' := [.agg #[.int .i64 m, .slice A n c], .slice A2 n2 c2, .pointer (some ⟨b2, 0, none⟩), undef, .bool false, .int .i64 ((K : Nat) : Int), .pointer (some ⟨b31, 0, none⟩), .int .i64 (findL ps x21.pipe), .agg #[.int .i64 m, .slice A n c], .bool true, .bool false, .bool false, .slice A2 n2 c2, .int .i64 ((n2 : Nat) : Int), .bool false, .bool false, .slice A2 n2 c2, .int .i64 ((n2 : Nat) : Int), .int .i64 ((K : Nat) : Int), .bool true, .int .i64 ((K : Nat) : Int), .pointer (some ⟨b23, o24 + K * 4, none⟩), .agg #[.int .i64 x21.id, .int .i64 x21.pipe, .int .i64 x21.node, .bool x21.shut], .agg #[.int .i64 m, .slice A n c], .pointer (some ⟨b31, 1, none⟩), .int .i64 x21.pipe, .int .i64 (findL ps x21.pipe), .pointer (some ⟨b31, 0, none⟩), .int .i64 x21.id, .bool false, .bool true, .bool true, undef, undef, undef, undef, undef, undef, undef, undef, undef, undef, undef, undef, undef, .bool true, .bool true, undef, undef, .bool true, .bool true, undef, undef, undef, .bool true, .bool true, undef, undef, undef, undef, undef, undef, undef, undef, undef, .bool true, (U0 66), (U0 67), (U0 68), (U0 69), (U0 70), (U0 71)]) (by kernel_rfl) ?_
          have x6 := SG.blk s51 x6 (by simp)
          have x41 := SG.blk s51 x41 (by simp)
          have c118 := (SG.belowR c48 s51 (fun kq e => by cases e))
          refine h14 _ _ ?_
          refine wp_cond_true (by kernel_rfl) ?_
          refine wp_seq_k (fun K26 h26 => ?_)
          refine W.region_quiet [(0, false)] (by kernel_rfl) ?_
          refine W.sq (v := .bool false) rfl (r_assign rfl (by kernel_rfl)) (by kernel_rfl) rfl rfl ?_
          refine W.sch_end (l' := [.agg #[.int .i64 m, .slice A n c], .slice A2 n2 c2, .pointer (some ⟨b2, 0, none⟩), undef, .bool false, .int .i64 ((K : Nat) : Int), .pointer (some ⟨b31, 0, none⟩), .int .i64 (findL ps x21.pipe), .agg #[.int .i64 m, .slice A n c], .bool true, .bool false, .bool false, .slice A2 n2 c2, .int .i64 ((n2 : Nat) : Int), .bool false, .bool false, .slice A2 n2 c2, .int .i64 ((n2 : Nat) : Int), .int .i64 ((K : Nat) : Int), .bool true, .int .i64 ((K : Nat) : Int), .pointer (some ⟨b23, o24 + K * 4, none⟩), .agg #[.int .i64 x21.id, .int .i64 x21.pipe, .int .i64 x21.node, .bool x21.shut], .agg #[.int .i64 m, .slice A n c], .pointer (some ⟨b31, 1, none⟩), .int .i64 x21.pipe, .int .i64 (findL ps x21.pipe), .pointer (some ⟨b31, 0, none⟩), .int .i64 x21.id, .bool false, .bool true, .bool true, undef, undef, undef, undef, undef, undef, undef, undef, undef, undef, undef, undef, undef, .bool true, .bool true, undef, undef, .bool true, .bool true, undef, undef, undef, .bool true, .bool true, undef, undef, undef, undef, undef, undef, undef, undef, undef, .bool true, (U0 66), (U0 67), (U0 68), (U0 69), (U0 70), (U0 71)]) (by kernel_rfl) ?_
          refine h26 _ _ ?_
          refine wp_ret ?_
          try simp only [Exit.then, Exit.inBlock]
          refine ret1 (v := .bool false) rfl (by kernel_rfl) ?_
          have e8 : okV ps vs (K) = false := Bool.eq_false_iff.2 (fun h9 => by
            have h8 := (okV_iff hx22).1 h9
            obtain ⟨⟨hA, hB⟩, hC, hD⟩ := h8
            obtain ⟨hC0, p9, hp9, hC1⟩ := endAt_pos hC
            have hg9 := (good_of q14).at hp9
            have h7 := (other_zero (u := x21.node) hg9.2.1.1 hg9.2.2.1.1)
            first | omega | (rw [inB_iff.2 hA] at q54; cases q54))
          exact ⟨ret_bool (goodV_bad (k := K) (by omega) e8).symm, c118⟩
      · refine W.sq (v := .bool false) rfl (r_lss (m := ((K : Nat) : Int)) (n := ((n2 : Nat) : Int)) rfl (by kernel_rfl) (by kernel_rfl) (decide_eq_false q19)) (by kernel_rfl) rfl rfl ?_
        refine W.sch_end (l' := [.agg #[.int .i64 m, .slice A n c], .slice A2 n2 c2, .pointer (some ⟨b2, 0, none⟩), undef, .bool false, (U0 5), (U0 6), (U0 7), .agg #[.int .i64 m, .slice A n c], .bool true, .bool false, .bool false, .slice A2 n2 c2, .int .i64 ((n2 : Nat) : Int), .bool false, .bool false, .slice A2 n2 c2, .int .i64 ((n2 : Nat) : Int), .int .i64 ((K : Nat) : Int), .bool false, (U0 20), (U0 21), (U0 22), (U0 23), (U0 24), (U0 25), (U0 26), (U0 27), (U0 28), (U0 29), (U0 30), (U0 31), (U0 32), (U0 33), (U0 34), (U0 35), (U0 36), (U0 37), (U0 38), (U0 39), (U0 40), (U0 41), (U0 42), (U0 43), (U0 44), (U0 45), (U0 46), (U0 47), (U0 48), (U0 49), (U0 50), (U0 51), (U0 52), (U0 53), (U0 54), (U0 55), (U0 56), (U0 57), (U0 58), (U0 59), (U0 60), (U0 61), (U0 62), (U0 63), (U0 64), (U0 65), (U0 66), (U0 67), (U0 68), (U0 69), (U0 70), (U0 71)]) (by kernel_rfl) ?_
        refine h8 _ _ ?_
        refine wp_seq_k (fun K27 h27 => ?_)
        refine wp_cond_false (by kernel_rfl) ?_
        refine wp_exit ?_
        refine h5 _ _ ?_
        refine wp_seq_k (fun K28 h28 => ?_)
        refine W.region_quiet [(0, false)] (by kernel_rfl) ?_
        refine W.sq (v := .bool true) rfl (r_assign rfl (by kernel_rfl)) (by kernel_rfl) rfl rfl ?_
        refine W.sch_end (l' := [.agg #[.int .i64 m, .slice A n c], .slice A2 n2 c2, .pointer (some ⟨b2, 0, none⟩), undef, .bool true, (U0 5), (U0 6), (U0 7), .agg #[.int .i64 m, .slice A n c], .bool true, .bool false, .bool false, .slice A2 n2 c2, .int .i64 ((n2 : Nat) : Int), .bool false, .bool false, .slice A2 n2 c2, .int .i64 ((n2 : Nat) : Int), .int .i64 ((K : Nat) : Int), .bool false, (U0 20), (U0 21), (U0 22), (U0 23), (U0 24), (U0 25), (U0 26), (U0 27), (U0 28), (U0 29), (U0 30), (U0 31), (U0 32), (U0 33), (U0 34), (U0 35), (U0 36), (U0 37), (U0 38), (U0 39), (U0 40), (U0 41), (U0 42), (U0 43), (U0 44), (U0 45), (U0 46), (U0 47), (U0 48), (U0 49), (U0 50), (U0 51), (U0 52), (U0 53), (U0 54), (U0 55), (U0 56), (U0 57), (U0 58), (U0 59), (U0 60), (U0 61), (U0 62), (U0 63), (U0 64), (U0 65), (U0 66), (U0 67), (U0 68), (U0 69), (U0 70), (U0 71)]) (by kernel_rfl) ?_
        refine h28 _ _ ?_
        refine wp_ret ?_
        try simp only [Exit.then]
        refine ret1 (v := .bool true) rfl (by kernel_rfl) ?_
        exact ⟨ret_bool (goodV_fin q14 (by omega) (by rw [show vs.length = K by omega]; exact hok)).symm, c18⟩
  · rw [q14]
    refine W.sq (v := .bool true) rfl (r_not (b := false) rfl (by kernel_rfl) rfl) (by kernel_rfl) rfl rfl ?_
    refine W.sq (v := .bool true) rfl (r_move rfl (by kernel_rfl)) (by kernel_rfl) rfl rfl ?_
    refine W.sk s13 rfl (by kernel_rfl) rfl rfl ?_
    refine W.sk s13 rfl (by kernel_rfl) rfl rfl ?_
    refine W.sk s13 rfl (by kernel_rfl) rfl rfl ?_
    refine W.sq (v := .bool true) rfl (r_pick (b := true) rfl (by kernel_rfl) (by kernel_rfl)) (by kernel_rfl) rfl rfl ?_
    refine W.sch_end (l' := [.agg #[.int .i64 m, .slice A n c], .slice A2 n2 c2, .pointer (some ⟨b2, 0, none⟩), undef, .bool false, undef, undef, undef, .agg #[.int .i64 m, .slice A n c], .bool false, .bool true, .bool true, undef, undef, undef, .bool true, undef, undef, undef, undef, undef, undef, undef, undef, undef, undef, undef, undef, undef, undef, undef, undef, undef, undef, undef, undef, undef, undef, undef, undef, undef, undef, undef, undef, undef, undef, undef, undef, undef, undef, undef, undef, undef, undef, undef, undef, undef, undef, undef, undef, undef, undef, undef, undef, undef, undef, undef, undef, undef, undef, undef, undef]) (by kernel_rfl) ?_
    have x6 := SG.blk s13 x6 (by simp)
    have c119 := (SG.belowR c9 s13 (fun kq e => by cases e))
    refine h3 _ _ ?_
    refine wp_cond_true (by kernel_rfl) ?_
    refine wp_seq_k (fun K29 h29 => ?_)
    refine W.region_quiet [(0, false)] (by kernel_rfl) ?_
    refine W.sq (v := .bool false) rfl (r_assign rfl (by kernel_rfl)) (by kernel_rfl) rfl rfl ?_
    refine W.sch_end (l' := [.agg #[.int .i64 m, .slice A n c], .slice A2 n2 c2, .pointer (some ⟨b2, 0, none⟩), undef, .bool false, undef, undef, undef, .agg #[.int .i64 m, .slice A n c], .bool false, .bool true, .bool true, undef, undef, undef, .bool true, undef, undef, undef, undef, undef, undef, undef, undef, undef, undef, undef, undef, undef, undef, undef, undef, undef, undef, undef, undef, undef, undef, undef, undef, undef, undef, undef, undef, undef, undef, undef, undef, undef, undef, undef, undef, undef, undef, undef, undef, undef, undef, undef, undef, undef, undef, undef, undef, undef, undef, undef, undef, undef, undef, undef, undef]) (by kernel_rfl) ?_
    refine h29 _ _ ?_
    refine wp_ret ?_
    try simp only [Exit.then]
    refine ret1 (v := .bool false) rfl (by kernel_rfl) ?_
    exact ⟨ret_bool (goodV_out (.inl q14)).symm, c119⟩

end Go.Proofs.Ythdmbndndfiidaa
