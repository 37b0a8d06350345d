/- Valid valves: the reference's test. -/
import Derived.Test.YtnfmdkbelbppdaaValL
namespace Go.Proofs.Ytnfmdkbelbppdaa
open Go.RowKit
set_option linter.unusedVariables false
set_option linter.unusedSimpArgs false

set_option maxRecDepth 100000 in
set_option maxHeartbeats 1000000 in
theorem l4Good_any (m : Int) (A : Option Addr) (n c : Nat) (ps : List Pp) (A2 : Option Addr) (n2 c2 : Nat) (vs : List Vv) (w : World) (ha : Rd w 4 A n (pipesV ps)) (hb : Rd w 4 A2 n2 (valvesV vs)) (hn : n ≤ 1048576) (hn2 : n2 ≤ 1048576) :
    Calls Try.prog 77 #[.agg #[.int .i64 m, .slice A n c], .slice A2 n2 c2] w fun e w' => e = .returned (.bool (goodV m ps vs)) ∧ Below w.heap.size w w' := by
  have hl := rd_pipes_len ha
  have hl2 := rd_valves_len hb
  go_enter Try.func77, Try.ntmps77
  refine wp_seq_k (fun K1 h1 => ?_)
  refine W.region_plain (row := none) [(0, true), (1, false)] (by kernel_rfl) ?_
  have s1 := SG.self w none
  refine W.sn (fun b => .pointer (some ⟨b, 0, none⟩)) #[.int .i64 m, .slice A n c] 32 s1 rfl (by kernel_rfl) rfl (fun _ => by kernel_rfl) (fun b2 w3 hb4 k5 x6 s7 => ?_)
  have lo8 : w.heap.size ≤ b2 := by have := ((SG.belowR (Below.refl _ _) s1 (fun kq e => by cases e))).size; omega
  refine W.as (v := .bool false) (h := ?_)
  refine W.endF 99 [(0, .agg #[.int .i64 m, .slice A n c]), (1, .slice A2 n2 c2), (2, .pointer (some ⟨b2, 0, none⟩)), (4, .bool false)] (fun U9 => ?_)
  have c10 := (SG.belowR (Below.refl _ _) s7 (fun kq e => by cases e))
  refine h1 _ _ ?_
  refine wp_seq_k (fun K2 h2 => ?_)
  refine wp_seq_k (fun K3 h3 => ?_)
  refine W.region_plain (row := none) [(0, false), (1, true), (2, false), (3, false), (4, false), (5, false), (6, false), (7, false)] (by kernel_rfl) ?_
  have s11 := SG.self w3 none
  refine W.q (v := .agg #[.int .i64 m, .slice A n c]) (hr := (r_load2 rfl (by kernel_rfl) (by kernel_rfl) (by kernel_rfl) (sgS (blk_cell (j := 0) x6 (by kernel_rfl)) (by simp)) (sgS (blk_cell (j := 1) x6 (by kernel_rfl)) (by simp)))) (h := ?_)
  refine W.sc (vs := [.agg #[.int .i64 m, .slice A n c]]) rfl rfl (by kernel_rfl) (by kernel_rfl) (by kernel_rfl) rfl (l2Good_any m A n c ps _ (Rd.kept ha (SG.belowR c10 s11 (fun kq e => by cases e))) (by omega)) ?_
  rintro e w13 ⟨rfl, b12⟩
  have s14 := SG.of_below s11 b12
  refine ⟨_, rfl, s14, ?_⟩
  rcases Bool.eq_false_or_eq_true (goodN m ps) with q15 | q15
  · rw [q15]
    refine W.q (v := .bool false) (hr := (r_not (b := true) rfl (by kernel_rfl) rfl)) (h := ?_)
    refine W.mv (v := .bool false) (h := ?_)
    refine W.mv (v := .slice A2 n2 c2) (h := ?_)
    refine W.q (v := .int .i64 ((n2 : Nat) : Int)) (hr := (r_len (A := A2) (n := n2) (c := c2) rfl (by kernel_rfl) (by kernel_rfl))) (h := ?_)
    by_cases q16 : (((n2 : Nat) : Int) : Int) > (10 : Int)
    · refine W.q (v := .bool true) (hr := (r_gtr (m := ((n2 : Nat) : Int)) (n := 10) rfl (by kernel_rfl) (by kernel_rfl) (decide_eq_true q16))) (h := ?_)
      refine W.q (v := .bool true) (hr := (r_pick (b := false) rfl (by kernel_rfl) (by kernel_rfl))) (h := ?_)
      refine W.endF 99 [(0, .agg #[.int .i64 m, .slice A n c]), (1, .slice A2 n2 c2), (2, .pointer (some ⟨b2, 0, none⟩)), (4, .bool false), (16, .bool true)] (fun U17 => ?_)
      have x6 := SG.blk s14 x6 (by simp)
      have c18 := (SG.belowR c10 s14 (fun kq e => by cases e))
      refine h3 _ _ ?_
      refine wp_cond_true (by kernel_rfl) ?_
      refine wp_seq_k (fun K4 h4 => ?_)
      refine W.region_quiet [(0, false)] (by kernel_rfl) ?_
      refine W.as (v := .bool false) (h := ?_)
      refine W.endF 99 [(0, .agg #[.int .i64 m, .slice A n c]), (1, .slice A2 n2 c2), (2, .pointer (some ⟨b2, 0, none⟩)), (4, .bool false), (16, .bool true)] (fun U19 => ?_)
      refine h4 _ _ ?_
      refine wp_ret ?_
      try simp only [Exit.then]
      refine ret1 (v := .bool false) rfl (by kernel_rfl) ?_
      exact ⟨ret_bool (goodV_out (.inr (by omega))).symm, c18⟩
    · refine W.q (v := .bool false) (hr := (r_gtr (m := ((n2 : Nat) : Int)) (n := 10) rfl (by kernel_rfl) (by kernel_rfl) (decide_eq_false q16))) (h := ?_)
      refine W.q (v := .bool false) (hr := (r_pick (b := false) rfl (by kernel_rfl) (by kernel_rfl))) (h := ?_)
      refine W.endF 99 [(0, .agg #[.int .i64 m, .slice A n c]), (1, .slice A2 n2 c2), (2, .pointer (some ⟨b2, 0, none⟩)), (4, .bool false), (16, .bool false)] (fun U20 => ?_)
      have x6 := SG.blk s14 x6 (by simp)
      have c21 := (SG.belowR c10 s14 (fun kq e => by cases e))
      refine h3 _ _ ?_
      refine wp_cond_false (by kernel_rfl) ?_
      refine wp_skip ?_
      refine h2 _ _ ?_
      refine wp_seq_k (fun K5 h5 => ?_)
      refine wp_seq_k (fun K6 h6 => ?_)
      refine W.region_quiet [(0, false)] (by kernel_rfl) ?_
      refine W.as (v := .int .i64 0) (h := ?_)
      refine W.endF 99 [(0, .agg #[.int .i64 m, .slice A n c]), (1, .slice A2 n2 c2), (2, .pointer (some ⟨b2, 0, none⟩)), (4, .bool false), (5, .int .i64 0), (16, .bool false)] (fun U22 => ?_)
      refine h6 _ _ ?_
      refine wp_block ?_
      refine loopK (fun am0 aa0 wl0 => ∃ (K : Nat) (U0 : Nat → Value), aa0 = ⟨(fr U0 [(0, .agg #[.int .i64 m, .slice A n c]), (1, .slice A2 n2 c2), (2, .pointer (some ⟨b2, 0, none⟩)), (4, .bool false), (5, .int .i64 ((K : Nat) : Int)), (16, .bool false)] 99 0).toArray, []⟩ ∧ (am0 = n2 - K) ∧ (K ≤ n2) ∧ (okVTo ps vs K = true) ∧ (wl0.heap[b2]? = some (.cells #[.int .i64 m, .slice A n c] 32 (0, 0))) ∧ (Below w.heap.size w wl0)) (n2 - 0) ?_ ?_
      · exact ⟨0, (fun iU9 => lk [(0, .agg #[.int .i64 m, .slice A n c]), (1, .slice A2 n2 c2), (2, .pointer (some ⟨b2, 0, none⟩)), (4, .bool false), (5, .int .i64 0), (16, .bool false)] iU9 (U22 iU9)), (by kernel_rfl), rfl, (Nat.zero_le _), rfl, x6, c21⟩
      rintro am0 aa0 wl0 K7 h7 ⟨K, U0, rfl, rfl, hk, hok, x6, c23⟩
      refine wp_seq_k (fun K8 h8 => ?_)
      refine wp_seq_k (fun K9 h9 => ?_)
      refine W.region_quiet [(0, false), (1, false), (2, false), (3, false)] (by kernel_rfl) ?_
      refine W.mv (v := .int .i64 ((K : Nat) : Int)) (h := ?_)
      refine W.mv (v := .slice A2 n2 c2) (h := ?_)
      refine W.q (v := .int .i64 ((n2 : Nat) : Int)) (hr := (r_len (A := A2) (n := n2) (c := c2) rfl (by kernel_rfl) (by kernel_rfl))) (h := ?_)
      by_cases q24 : (((K : Nat) : Int) : Int) < (((n2 : Nat) : Int) : Int)
      · refine W.q (v := .bool true) (hr := (r_lss (m := ((K : Nat) : Int)) (n := ((n2 : Nat) : Int)) rfl (by kernel_rfl) (by kernel_rfl) (decide_eq_true q24))) (h := ?_)
        refine W.endF 99 [(0, .agg #[.int .i64 m, .slice A n c]), (1, .slice A2 n2 c2), (2, .pointer (some ⟨b2, 0, none⟩)), (4, .bool false), (5, .int .i64 ((K : Nat) : Int)), (16, .bool false), (20, .bool true)] (fun U25 => ?_)
        refine h9 _ _ ?_
        refine wp_cond_true (by kernel_rfl) ?_
        refine wp_skip ?_
        refine h8 _ _ ?_
        refine wp_seq_k (fun K10 h10 => ?_)
        refine wp_block ?_
        refine wp_seq_k (fun K11 h11 => ?_)
        refine W.region_plain (row := none) [(0, false), (1, false), (2, false), (3, false), (4, true), (5, true)] (by kernel_rfl) ?_
        have s26 := SG.self wl0 none
        refine W.mv (v := .slice A2 n2 c2) (h := ?_)
        refine W.mv (v := .int .i64 ((K : Nat) : Int)) (h := ?_)
        obtain ⟨x27, hx28⟩ := get_of (zs := vs) (k := K) (by have := hl2; omega)
        obtain ⟨b29, o30, hA31, hb32, hc33, hc34, hc35, hc36⟩ := Rd.elValve hb hx28
        refine W.q (v := .pointer (some ⟨b29, o30 + K * 4, none⟩)) (hr := (r_idx (n := n2) (c := c2) (k := K) rfl (by kernel_rfl) hA31 (by kernel_rfl) (by kernel_rfl) (by have := hl2; omega))) (h := ?_)
        refine W.q (v := .agg #[.int .i64 x27.id, .int .i64 x27.pipe, .int .i64 x27.node, .bool x27.shut]) (hr := (r_load4 rfl (by kernel_rfl) (by kernel_rfl) (by kernel_rfl) (sgS (later c23 hc33) (by simp)) (sgS (later c23 hc34) (by simp)) (sgS (later c23 hc35) (by simp)) (sgS (later c23 hc36) (by simp)))) (h := ?_)
        refine W.sn (fun b => .pointer (some ⟨b, 0, none⟩)) #[.int .i64 0, .int .i64 0, .int .i64 0, .bool false] 60 s26 rfl (by kernel_rfl) rfl (fun _ => by kernel_rfl) (fun b37 w38 hb39 k40 x41 s42 => ?_)
        have lo43 : w.heap.size ≤ b37 := by have := ((SG.belowR c23 s26 (fun kq e => by cases e))).size; omega
        have ne44 : b2 ≠ b37 := by have := blk_lt x6; have := World.grownBy.size s26; omega
        refine W.ss (v := .agg #[.int .i64 x27.id, .int .i64 x27.pipe, .int .i64 x27.node, .bool x27.shut]) (j := 0) (news := [.int .i64 x27.id, .int .i64 x27.pipe, .int .i64 x27.node, .bool x27.shut]) (cs' := #[.int .i64 x27.id, .int .i64 x27.pipe, .int .i64 x27.node, .bool x27.shut]) s42 rfl (by kernel_rfl) rfl rfl (by kernel_rfl) (by kernel_rfl) x41 (by kernel_rfl) (by kernel_rfl) (by simp) (by kernel_rfl) (by kernel_rfl) (.inr (by have := World.grownBy.size s26; have := hb39; omega)) (fun w45 g46 x47 s48 => ?_)
        refine W.endF 99 [(0, .agg #[.int .i64 m, .slice A n c]), (1, .slice A2 n2 c2), (2, .pointer (some ⟨b2, 0, none⟩)), (4, .bool false), (5, .int .i64 ((K : Nat) : Int)), (6, .pointer (some ⟨b37, 0, none⟩)), (16, .bool false), (20, .bool true)] (fun U49 => ?_)
        have x6 := SG.blk s48 x6 (by simp)
        have c50 := (SG.belowR c23 s48 (fun kq e => by cases e))
        refine h11 _ _ ?_
        refine wp_seq_k (fun K12 h12 => ?_)
        refine W.region_plain (row := none) [(0, false), (1, false), (2, false), (3, true), (4, false)] (by kernel_rfl) ?_
        have s51 := SG.self w45 none
        refine W.q (v := .agg #[.int .i64 m, .slice A n c]) (hr := (r_load2 rfl (by kernel_rfl) (by kernel_rfl) (by kernel_rfl) (sgS (blk_cell (j := 0) x6 (by kernel_rfl)) (by simp)) (sgS (blk_cell (j := 1) x6 (by kernel_rfl)) (by simp)))) (h := ?_)
        refine W.q (v := .pointer (some ⟨b37, 1, none⟩)) (hr := (r_field (k := 1) rfl (by kernel_rfl) (by kernel_rfl))) (h := ?_)
        refine W.ld (v := .int .i64 x27.pipe) (hc := (sgS (blk_cell (j := 1) x47 (by kernel_rfl)) (by simp))) (h := ?_)
        refine W.sc (vs := [.agg #[.int .i64 m, .slice A n c], .int .i64 x27.pipe]) rfl rfl (by kernel_rfl) (by kernel_rfl) (by kernel_rfl) rfl (l2Find_any m A n c ps x27.pipe _ (Rd.kept ha (SG.belowR c50 s51 (fun kq e => by cases e))) (by omega)) ?_
        rintro e w53 ⟨rfl, b52⟩
        have s54 := SG.of_below s51 b52
        refine ⟨_, rfl, s54, ?_⟩
        refine W.as (v := .int .i64 (findL ps x27.pipe)) (h := ?_)
        refine W.endF 99 [(0, .agg #[.int .i64 m, .slice A n c]), (1, .slice A2 n2 c2), (2, .pointer (some ⟨b2, 0, none⟩)), (4, .bool false), (5, .int .i64 ((K : Nat) : Int)), (6, .pointer (some ⟨b37, 0, none⟩)), (7, .int .i64 (findL ps x27.pipe)), (16, .bool false), (20, .bool true)] (fun U55 => ?_)
        have x6 := SG.blk s54 x6 (by simp)
        have x47 := SG.blk s54 x47 (by simp)
        have c56 := (SG.belowR c50 s54 (fun kq e => by cases e))
        refine h12 _ _ ?_
        refine wp_seq_k (fun K13 h13 => ?_)
        refine wp_seq_k (fun K14 h14 => ?_)
        refine W.region_sch (row := none) (Sch.of [(0, false), (1, false), (2, true), (3, false), (4, false), (5, false), (6, false), (7, false), (8, false), (9, false), (10, false), (11, false), (12, false), (13, false), (14, false), (15, false), (16, false), (17, false), (18, false), (19, false), (20, false), (21, false), (22, false), (23, false), (24, false), (25, false), (26, false), (27, false), (28, false), (29, false), (30, false), (31, false), (32, false), (33, false), (34, false), (35, false), (36, false), (37, false), (38, false), (39, false), (40, false), (41, false), (42, false), (43, false), (44, false)]) (by kernel_rfl) (by kernel_rfl) (fun _ d _ _ _ h => by cases d <;> exact h) (by kernel_rfl) (fun w57 e58 s59 => ?_)
        refine W.q (v := .pointer (some ⟨b37, 0, none⟩)) (hr := (r_field0 rfl (by kernel_rfl) (by kernel_rfl))) (h := ?_)
        refine W.ld (v := .int .i64 x27.id) (hc := (sgS (blk_cell (j := 0) x47 (by kernel_rfl)) (by simp))) (h := ?_)
        refine W.sc (vs := [.int .i64 x27.id, .int .i64 1, .int .i64 99]) rfl rfl (by kernel_rfl) (by kernel_rfl) (by kernel_rfl) rfl (l1In_any x27.id 1 99 _) ?_
        rintro e w' ⟨rfl, rfl⟩
        refine ⟨_, rfl, s59, ?_⟩
        rcases Bool.eq_false_or_eq_true (inB x27.id 1 99) with q62 | q62
        · rw [q62]
          refine W.q (v := .bool false) (hr := (r_not (b := true) rfl (by kernel_rfl) rfl)) (h := ?_)
          refine W.mv (v := .bool false) (h := ?_)
          refine W.mv (v := .int .i64 ((K : Nat) : Int)) (h := ?_)
          by_cases q63 : (((K : Nat) : Int) : Int) > (0 : Int)
          · obtain ⟨k, rfl⟩ : ∃ k, K = k + 1 := ⟨K - 1, by omega⟩
            refine W.q (v := .bool true) (hr := (r_gtr (m := (((k + 1) : Nat) : Int)) (n := 0) rfl (by kernel_rfl) (by kernel_rfl) (decide_eq_true q63))) (h := ?_)
            refine W.mv (v := .bool true) (h := ?_)
            refine W.mv (v := .slice A2 n2 c2) (h := ?_)
            refine W.mv (v := .int .i64 (((k + 1) : Nat) : Int)) (h := ?_)
            refine W.q (v := .int .i64 ((k : Nat) : Int)) (hr := (r_sub (m := (((k + 1) : Nat) : Int)) (n := 1) (z := ((k : Nat) : Int)) rfl (by kernel_rfl) (by kernel_rfl) (by omega) (by omega))) (h := ?_)
            obtain ⟨x64, hx65⟩ := get_of (zs := vs) (k := k) (by have := hl2; omega)
            obtain ⟨b66, o67, hA68, hb69, hc70, hc71, hc72, hc73⟩ := Rd.elValve hb hx65
            refine W.q (v := .pointer (some ⟨b66, o67 + k * 4, none⟩)) (hr := (r_idx (n := n2) (c := c2) (k := k) rfl (by kernel_rfl) hA68 (by kernel_rfl) (by kernel_rfl) (by have := hl2; omega))) (h := ?_)
            refine W.q (v := .pointer (some ⟨b66, o67 + k * 4, none⟩)) (hr := (r_field0 rfl (by kernel_rfl) (by kernel_rfl))) (h := ?_)
            refine W.ld (v := .int .i64 x64.id) (hc := (sgS (later c56 hc70) (by simp))) (h := ?_)
            refine W.q (v := .pointer (some ⟨b37, 0, none⟩)) (hr := (r_field0 rfl (by kernel_rfl) (by kernel_rfl))) (h := ?_)
            refine W.ld (v := .int .i64 x27.id) (hc := (sgS (blk_cell (j := 0) x47 (by kernel_rfl)) (by simp))) (h := ?_)
            by_cases q74 : (x64.id : Int) ≥ (x27.id : Int)
            · refine W.q (v := .bool true) (hr := (r_geq (m := x64.id) (n := x27.id) rfl (by kernel_rfl) (by kernel_rfl) (decide_eq_true q74))) (h := ?_)
              refine W.q (v := .bool true) (hr := (r_pick (b := true) rfl (by kernel_rfl) (by kernel_rfl))) (h := ?_)
              refine W.q (v := .bool true) (hr := (r_pick (b := false) rfl (by kernel_rfl) (by kernel_rfl))) (h := ?_)
              refine W.mv (v := .bool true) (h := ?_)
              refine W.sp s59 (h := ?_)
              refine W.sp s59 (h := ?_)
              refine W.q (v := .bool true) (hr := (r_pick (b := true) rfl (by kernel_rfl) (by kernel_rfl))) (h := ?_)
              refine W.mv (v := .bool true) (h := ?_)
              refine W.sp s59 (h := ?_)
              refine W.sp s59 (h := ?_)
              refine W.sp s59 (h := ?_)
              refine W.sp s59 (h := ?_)
              refine W.sp s59 (h := ?_)
              refine W.sp s59 (h := ?_)
              refine W.sp s59 (h := ?_)
              refine W.sp s59 (h := ?_)
              refine W.sp s59 (h := ?_)
              refine W.sp s59 (h := ?_)
              refine W.sp s59 (h := ?_)
              refine W.sp s59 (h := ?_)
              refine W.sp s59 (h := ?_)
              refine W.sp s59 (h := ?_)
              refine W.sp s59 (h := ?_)
              refine W.sp s59 (h := ?_)
              refine W.sp s59 (h := ?_)
              refine W.sp s59 (h := ?_)
              refine W.sp s59 (h := ?_)
              refine W.sp s59 (h := ?_)
              refine W.q (v := .bool true) (hr := (r_pick (b := true) rfl (by kernel_rfl) (by kernel_rfl))) (h := ?_)
              refine W.endF 99 [(0, .agg #[.int .i64 m, .slice A n c]), (1, .slice A2 n2 c2), (2, .pointer (some ⟨b2, 0, none⟩)), (4, .bool false), (5, .int .i64 (((k + 1) : Nat) : Int)), (6, .pointer (some ⟨b37, 0, none⟩)), (7, .int .i64 (findL ps x27.pipe)), (16, .bool false), (20, .bool true), (75, .bool true)] (fun U75 => ?_)
              have x6 := SG.blk s59 x6 (by simp)
              have x47 := SG.blk s59 x47 (by simp)
              have c76 := (SG.belowR c56 s59 (fun kq e => by cases e))
              refine h14 _ _ ?_
              refine wp_cond_true (by kernel_rfl) ?_
              refine wp_seq_k (fun K15 h15 => ?_)
              refine W.region_quiet [(0, false)] (by kernel_rfl) ?_
              refine W.as (v := .bool false) (h := ?_)
              refine W.endF 99 [(0, .agg #[.int .i64 m, .slice A n c]), (1, .slice A2 n2 c2), (2, .pointer (some ⟨b2, 0, none⟩)), (4, .bool false), (5, .int .i64 (((k + 1) : Nat) : Int)), (6, .pointer (some ⟨b37, 0, none⟩)), (7, .int .i64 (findL ps x27.pipe)), (16, .bool false), (20, .bool true), (75, .bool true)] (fun U77 => ?_)
              refine h15 _ _ ?_
              refine wp_ret ?_
              try simp only [Exit.then, Exit.inBlock]
              refine ret1 (v := .bool false) rfl (by kernel_rfl) ?_
              have e8 : okV ps vs (k + 1) = false := Bool.eq_false_iff.2 (fun h9 => by
                have h8 := (okV_iff hx28).1 h9
                obtain ⟨⟨hA, hB⟩, hC, hD⟩ := h8
                obtain ⟨hC0, p9, hp9, hC1⟩ := endAt_pos hC
                have hB' := of_decide_eq_true ((above_next hx65).symm.trans hB)
                first | omega | (rw [inB_iff.2 hA] at q62; cases q62))
              exact ⟨ret_bool (goodV_bad (k := k + 1) (by omega) e8).symm, c76⟩
            · refine W.q (v := .bool false) (hr := (r_geq (m := x64.id) (n := x27.id) rfl (by kernel_rfl) (by kernel_rfl) (decide_eq_false q74))) (h := ?_)
              refine W.q (v := .bool false) (hr := (r_pick (b := true) rfl (by kernel_rfl) (by kernel_rfl))) (h := ?_)
              refine W.q (v := .bool false) (hr := (r_pick (b := false) rfl (by kernel_rfl) (by kernel_rfl))) (h := ?_)
              refine W.mv (v := .bool false) (h := ?_)
              refine W.mv (v := .int .i64 (findL ps x27.pipe)) (h := ?_)
              by_cases q78 : (findL ps x27.pipe : Int) < (0 : Int)
              · refine W.q (v := .bool true) (hr := (r_lss (m := findL ps x27.pipe) (n := 0) rfl (by kernel_rfl) (by kernel_rfl) (decide_eq_true q78))) (h := ?_)
                refine W.q (v := .bool true) (hr := (r_pick (b := false) rfl (by kernel_rfl) (by kernel_rfl))) (h := ?_)
                refine W.mv (v := .bool true) (h := ?_)
                refine W.sp s59 (h := ?_)
                refine W.sp s59 (h := ?_)
                refine W.sp s59 (h := ?_)
                refine W.sp s59 (h := ?_)
                refine W.sp s59 (h := ?_)
                refine W.sp s59 (h := ?_)
                refine W.sp s59 (h := ?_)
                refine W.sp s59 (h := ?_)
                refine W.sp s59 (h := ?_)
                refine W.sp s59 (h := ?_)
                refine W.sp s59 (h := ?_)
                refine W.sp s59 (h := ?_)
                refine W.sp s59 (h := ?_)
                refine W.sp s59 (h := ?_)
                refine W.sp s59 (h := ?_)
                refine W.sp s59 (h := ?_)
                refine W.sp s59 (h := ?_)
                refine W.sp s59 (h := ?_)
                refine W.sp s59 (h := ?_)
                refine W.sp s59 (h := ?_)
                refine W.q (v := .bool true) (hr := (r_pick (b := true) rfl (by kernel_rfl) (by kernel_rfl))) (h := ?_)
                refine W.endF 99 [(0, .agg #[.int .i64 m, .slice A n c]), (1, .slice A2 n2 c2), (2, .pointer (some ⟨b2, 0, none⟩)), (4, .bool false), (5, .int .i64 (((k + 1) : Nat) : Int)), (6, .pointer (some ⟨b37, 0, none⟩)), (7, .int .i64 (findL ps x27.pipe)), (16, .bool false), (20, .bool true), (75, .bool true)] (fun U79 => ?_)
                have x6 := SG.blk s59 x6 (by simp)
                have x47 := SG.blk s59 x47 (by simp)
                have c80 := (SG.belowR c56 s59 (fun kq e => by cases e))
                refine h14 _ _ ?_
                refine wp_cond_true (by kernel_rfl) ?_
                refine wp_seq_k (fun K16 h16 => ?_)
                refine W.region_quiet [(0, false)] (by kernel_rfl) ?_
                refine W.as (v := .bool false) (h := ?_)
                refine W.endF 99 [(0, .agg #[.int .i64 m, .slice A n c]), (1, .slice A2 n2 c2), (2, .pointer (some ⟨b2, 0, none⟩)), (4, .bool false), (5, .int .i64 (((k + 1) : Nat) : Int)), (6, .pointer (some ⟨b37, 0, none⟩)), (7, .int .i64 (findL ps x27.pipe)), (16, .bool false), (20, .bool true), (75, .bool true)] (fun U81 => ?_)
                refine h16 _ _ ?_
                refine wp_ret ?_
                try simp only [Exit.then, Exit.inBlock]
                refine ret1 (v := .bool false) rfl (by kernel_rfl) ?_
                have e8 : okV ps vs (k + 1) = false := Bool.eq_false_iff.2 (fun h9 => by
                  have h8 := (okV_iff hx28).1 h9
                  obtain ⟨⟨hA, hB⟩, hC, hD⟩ := h8
                  obtain ⟨hC0, p9, hp9, hC1⟩ := endAt_pos hC
                  have hB' := of_decide_eq_true ((above_next hx65).symm.trans hB)
                  first | omega | (rw [inB_iff.2 hA] at q62; cases q62))
                exact ⟨ret_bool (goodV_bad (k := k + 1) (by omega) e8).symm, c80⟩
              · refine W.q (v := .bool false) (hr := (r_lss (m := findL ps x27.pipe) (n := 0) rfl (by kernel_rfl) (by kernel_rfl) (decide_eq_false q78))) (h := ?_)
                refine W.q (v := .bool false) (hr := (r_pick (b := false) rfl (by kernel_rfl) (by kernel_rfl))) (h := ?_)
                refine W.mv (v := .bool false) (h := ?_)
                refine W.q (v := .pointer (some ⟨b2, 1, none⟩)) (hr := (r_field (k := 1) rfl (by kernel_rfl) (by kernel_rfl))) (h := ?_)
                refine W.ld (v := .slice A n c) (hc := (sgS (blk_cell (j := 1) x6 (by kernel_rfl)) (by simp))) (h := ?_)
                refine W.mv (v := .int .i64 (findL ps x27.pipe)) (h := ?_)
                have hfl := findL_lt ps x27.pipe
                obtain ⟨x82, hx83⟩ := get_of (zs := ps) (k := (findL ps x27.pipe).toNat) (by have := hl; omega)
                obtain ⟨b84, o85, hA86, hb87, hc88, hc89, hc90, hc91⟩ := Rd.elPipe ha hx83
                refine W.q (v := .pointer (some ⟨b84, o85 + ((findL ps x27.pipe).toNat) * 4, none⟩)) (hr := (r_idx (n := n) (c := c) (k := (findL ps x27.pipe).toNat) rfl (by kernel_rfl) hA86 (evk (z := findL ps x27.pipe) (by kernel_rfl) (by omega)) (by kernel_rfl) (by have := hl; omega))) (h := ?_)
                refine W.q (v := .pointer (some ⟨b84, o85 + ((findL ps x27.pipe).toNat) * 4 + 1, none⟩)) (hr := (r_field (k := 1) rfl (by kernel_rfl) (by kernel_rfl))) (h := ?_)
                refine W.ld (v := .int .i64 x82.fr) (hc := (sgS (later c56 hc89) (by simp))) (h := ?_)
                refine W.q (v := .pointer (some ⟨b37, 2, none⟩)) (hr := (r_field (k := 2) rfl (by kernel_rfl) (by kernel_rfl))) (h := ?_)
                refine W.ld (v := .int .i64 x27.node) (hc := (sgS (blk_cell (j := 2) x47 (by kernel_rfl)) (by simp))) (h := ?_)
                by_cases q92 : (x82.fr : Int) ≠ (x27.node : Int)
                · refine W.q (v := .bool true) (hr := (r_neq (m := x82.fr) (n := x27.node) rfl (by kernel_rfl) (by kernel_rfl) (decide_eq_true q92))) (h := ?_)
                  refine W.mv (v := .bool true) (h := ?_)
                  refine W.q (v := .pointer (some ⟨b2, 1, none⟩)) (hr := (r_field (k := 1) rfl (by kernel_rfl) (by kernel_rfl))) (h := ?_)
                  refine W.ld (v := .slice A n c) (hc := (sgS (blk_cell (j := 1) x6 (by kernel_rfl)) (by simp))) (h := ?_)
                  refine W.mv (v := .int .i64 (findL ps x27.pipe)) (h := ?_)
                  refine W.q (v := .pointer (some ⟨b84, o85 + ((findL ps x27.pipe).toNat) * 4, none⟩)) (hr := (r_idx (n := n) (c := c) (k := (findL ps x27.pipe).toNat) rfl (by kernel_rfl) hA86 (evk (z := findL ps x27.pipe) (by kernel_rfl) (by omega)) (by kernel_rfl) (by have := hl; omega))) (h := ?_)
                  refine W.q (v := .pointer (some ⟨b84, o85 + ((findL ps x27.pipe).toNat) * 4 + 2, none⟩)) (hr := (r_field (k := 2) rfl (by kernel_rfl) (by kernel_rfl))) (h := ?_)
                  refine W.ld (v := .int .i64 x82.to) (hc := (sgS (later c56 hc90) (by simp))) (h := ?_)
                  refine W.q (v := .pointer (some ⟨b37, 2, none⟩)) (hr := (r_field (k := 2) rfl (by kernel_rfl) (by kernel_rfl))) (h := ?_)
                  refine W.ld (v := .int .i64 x27.node) (hc := (sgS (blk_cell (j := 2) x47 (by kernel_rfl)) (by simp))) (h := ?_)
                  by_cases q93 : (x82.to : Int) ≠ (x27.node : Int)
                  · refine W.q (v := .bool true) (hr := (r_neq (m := x82.to) (n := x27.node) rfl (by kernel_rfl) (by kernel_rfl) (decide_eq_true q93))) (h := ?_)
                    refine W.q (v := .bool true) (hr := (r_pick (b := true) rfl (by kernel_rfl) (by kernel_rfl))) (h := ?_)
                    refine W.q (v := .bool true) (hr := (r_pick (b := false) rfl (by kernel_rfl) (by kernel_rfl))) (h := ?_)
                    refine W.endF 99 [(0, .agg #[.int .i64 m, .slice A n c]), (1, .slice A2 n2 c2), (2, .pointer (some ⟨b2, 0, none⟩)), (4, .bool false), (5, .int .i64 (((k + 1) : Nat) : Int)), (6, .pointer (some ⟨b37, 0, none⟩)), (7, .int .i64 (findL ps x27.pipe)), (16, .bool false), (20, .bool true), (75, .bool true)] (fun U94 => ?_)
                    have x6 := SG.blk s59 x6 (by simp)
                    have x47 := SG.blk s59 x47 (by simp)
                    have c95 := (SG.belowR c56 s59 (fun kq e => by cases e))
                    refine h14 _ _ ?_
                    refine wp_cond_true (by kernel_rfl) ?_
                    refine wp_seq_k (fun K17 h17 => ?_)
                    refine W.region_quiet [(0, false)] (by kernel_rfl) ?_
                    refine W.as (v := .bool false) (h := ?_)
                    refine W.endF 99 [(0, .agg #[.int .i64 m, .slice A n c]), (1, .slice A2 n2 c2), (2, .pointer (some ⟨b2, 0, none⟩)), (4, .bool false), (5, .int .i64 (((k + 1) : Nat) : Int)), (6, .pointer (some ⟨b37, 0, none⟩)), (7, .int .i64 (findL ps x27.pipe)), (16, .bool false), (20, .bool true), (75, .bool true)] (fun U96 => ?_)
                    refine h17 _ _ ?_
                    refine wp_ret ?_
                    try simp only [Exit.then, Exit.inBlock]
                    refine ret1 (v := .bool false) rfl (by kernel_rfl) ?_
                    have e8 : okV ps vs (k + 1) = false := Bool.eq_false_iff.2 (fun h9 => by
                      have h8 := (okV_iff hx28).1 h9
                      obtain ⟨⟨hA, hB⟩, hC, hD⟩ := h8
                      obtain ⟨hC0, p9, hp9, hC1⟩ := endAt_pos hC
                      have hB' := of_decide_eq_true ((above_next hx65).symm.trans hB)
                      obtain rfl := Option.some.inj (hp9.symm.trans hx83)
                      first | omega | (rw [inB_iff.2 hA] at q62; cases q62))
                    exact ⟨ret_bool (goodV_bad (k := k + 1) (by omega) e8).symm, c95⟩
                  · refine W.q (v := .bool false) (hr := (r_neq (m := x82.to) (n := x27.node) rfl (by kernel_rfl) (by kernel_rfl) (decide_eq_false q93))) (h := ?_)
                    refine W.q (v := .bool false) (hr := (r_pick (b := true) rfl (by kernel_rfl) (by kernel_rfl))) (h := ?_)
                    refine W.q (v := .bool false) (hr := (r_pick (b := false) rfl (by kernel_rfl) (by kernel_rfl))) (h := ?_)
                    refine W.endF 99 [(0, .agg #[.int .i64 m, .slice A n c]), (1, .slice A2 n2 c2), (2, .pointer (some ⟨b2, 0, none⟩)), (4, .bool false), (5, .int .i64 (((k + 1) : Nat) : Int)), (6, .pointer (some ⟨b37, 0, none⟩)), (7, .int .i64 (findL ps x27.pipe)), (16, .bool false), (20, .bool true), (75, .bool false)] (fun U97 => ?_)
                    have x6 := SG.blk s59 x6 (by simp)
                    have x47 := SG.blk s59 x47 (by simp)
                    have c98 := (SG.belowR c56 s59 (fun kq e => by cases e))
                    refine h14 _ _ ?_
                    refine wp_cond_false (by kernel_rfl) ?_
                    refine wp_skip ?_
                    refine h13 _ _ ?_
                    refine wp_seq_k (fun K18 h18 => ?_)
                    refine W.region_quiet [(0, false)] (by kernel_rfl) ?_
                    refine W.as (v := .int .i64 0) (h := ?_)
                    refine W.endF 99 [(0, .agg #[.int .i64 m, .slice A n c]), (1, .slice A2 n2 c2), (2, .pointer (some ⟨b2, 0, none⟩)), (4, .bool false), (5, .int .i64 (((k + 1) : Nat) : Int)), (6, .pointer (some ⟨b37, 0, none⟩)), (7, .int .i64 (findL ps x27.pipe)), (8, .int .i64 0), (16, .bool false), (20, .bool true), (75, .bool false)] (fun U99 => ?_)
                    refine h18 _ _ ?_
                    refine wp_block ?_
                    refine loopK (fun am1 aa1 wl1 => ∃ (j : Nat) (U1 : Nat → Value), aa1 = ⟨(fr U1 [(0, .agg #[.int .i64 m, .slice A n c]), (1, .slice A2 n2 c2), (2, .pointer (some ⟨b2, 0, none⟩)), (4, .bool false), (5, .int .i64 (((k + 1) : Nat) : Int)), (6, .pointer (some ⟨b37, 0, none⟩)), (7, .int .i64 (findL ps x27.pipe)), (8, .int .i64 ((j : Nat) : Int)), (16, .bool false), (20, .bool true), (75, .bool false)] 99 0).toArray, []⟩ ∧ (am1 = (k + 1) - j) ∧ (j ≤ k + 1) ∧ (∀ i z, i < j → vs[i]? = some z → ¬ (z.pipe = x27.pipe ∧ z.node = x27.node)) ∧ (wl1.heap[b2]? = some (.cells #[.int .i64 m, .slice A n c] 32 (0, 0))) ∧ (wl1.heap[b37]? = some (.cells #[.int .i64 x27.id, .int .i64 x27.pipe, .int .i64 x27.node, .bool x27.shut] 60 (0, 0))) ∧ (Below w.heap.size w wl1)) ((k + 1) - 0) ?_ ?_
                    · exact ⟨0, (fun iU9 => lk [(0, .agg #[.int .i64 m, .slice A n c]), (1, .slice A2 n2 c2), (2, .pointer (some ⟨b2, 0, none⟩)), (4, .bool false), (5, .int .i64 (((k + 1) : Nat) : Int)), (6, .pointer (some ⟨b37, 0, none⟩)), (7, .int .i64 (findL ps x27.pipe)), (8, .int .i64 0), (16, .bool false), (20, .bool true), (75, .bool false)] iU9 (U99 iU9)), (by kernel_rfl), rfl, (Nat.zero_le _), (fun i z hi => absurd hi (by omega)), x6, x47, c98⟩
                    rintro am1 aa1 wl1 K19 h19 ⟨j, U1, rfl, rfl, hj, hno, x6, x47, c100⟩
                    refine wp_seq_k (fun K20 h20 => ?_)
                    refine wp_seq_k (fun K21 h21 => ?_)
                    refine W.region_quiet [(0, false), (1, false), (2, false)] (by kernel_rfl) ?_
                    refine W.mv (v := .int .i64 ((j : Nat) : Int)) (h := ?_)
                    refine W.mv (v := .int .i64 (((k + 1) : Nat) : Int)) (h := ?_)
                    by_cases q101 : (((j : Nat) : Int) : Int) < ((((k + 1) : Nat) : Int) : Int)
                    · refine W.q (v := .bool true) (hr := (r_lss (m := ((j : Nat) : Int)) (n := (((k + 1) : Nat) : Int)) rfl (by kernel_rfl) (by kernel_rfl) (decide_eq_true q101))) (h := ?_)
                      refine W.endF 99 [(0, .agg #[.int .i64 m, .slice A n c]), (1, .slice A2 n2 c2), (2, .pointer (some ⟨b2, 0, none⟩)), (4, .bool false), (5, .int .i64 (((k + 1) : Nat) : Int)), (6, .pointer (some ⟨b37, 0, none⟩)), (7, .int .i64 (findL ps x27.pipe)), (8, .int .i64 ((j : Nat) : Int)), (16, .bool false), (20, .bool true), (75, .bool false), (78, .bool true)] (fun U102 => ?_)
                      refine h21 _ _ ?_
                      refine wp_cond_true (by kernel_rfl) ?_
                      refine wp_skip ?_
                      refine h20 _ _ ?_
                      refine wp_seq_k (fun K22 h22 => ?_)
                      refine wp_block ?_
                      refine wp_seq_k (fun K23 h23 => ?_)
                      refine W.region_sch (row := none) (Sch.of [(0, false), (1, false), (2, false), (3, false), (4, false), (5, false), (6, false), (7, false), (8, false), (9, false), (10, false), (11, false), (12, false), (13, false), (14, false), (15, false), (16, false), (17, false)]) (by kernel_rfl) (by kernel_rfl) (fun _ d _ _ _ h => by cases d <;> exact h) (by kernel_rfl) (fun w103 e104 s105 => ?_)
                      refine W.mv (v := .slice A2 n2 c2) (h := ?_)
                      refine W.mv (v := .int .i64 ((j : Nat) : Int)) (h := ?_)
                      obtain ⟨x106, hx107⟩ := get_of (zs := vs) (k := j) (by have := hl2; omega)
                      obtain ⟨b108, o109, hA110, hb111, hc112, hc113, hc114, hc115⟩ := Rd.elValve hb hx107
                      refine W.q (v := .pointer (some ⟨b108, o109 + j * 4, none⟩)) (hr := (r_idx (n := n2) (c := c2) (k := j) rfl (by kernel_rfl) hA110 (by kernel_rfl) (by kernel_rfl) (by have := hl2; omega))) (h := ?_)
                      refine W.q (v := .pointer (some ⟨b108, o109 + j * 4 + 1, none⟩)) (hr := (r_field (k := 1) rfl (by kernel_rfl) (by kernel_rfl))) (h := ?_)
                      refine W.ld (v := .int .i64 x106.pipe) (hc := (sgS (later c100 hc113) (by simp))) (h := ?_)
                      refine W.q (v := .pointer (some ⟨b37, 1, none⟩)) (hr := (r_field (k := 1) rfl (by kernel_rfl) (by kernel_rfl))) (h := ?_)
                      refine W.ld (v := .int .i64 x27.pipe) (hc := (sgS (blk_cell (j := 1) x47 (by kernel_rfl)) (by simp))) (h := ?_)
                      by_cases q116 : (x106.pipe : Int) = (x27.pipe : Int)
                      · refine W.q (v := .bool true) (hr := (r_eql (m := x106.pipe) (n := x27.pipe) rfl (by kernel_rfl) (by kernel_rfl) (decide_eq_true q116))) (h := ?_)
                        refine W.mv (v := .bool true) (h := ?_)
                        refine W.mv (v := .slice A2 n2 c2) (h := ?_)
                        refine W.mv (v := .int .i64 ((j : Nat) : Int)) (h := ?_)
                        refine W.q (v := .pointer (some ⟨b108, o109 + j * 4, none⟩)) (hr := (r_idx (n := n2) (c := c2) (k := j) rfl (by kernel_rfl) hA110 (by kernel_rfl) (by kernel_rfl) (by have := hl2; omega))) (h := ?_)
                        refine W.q (v := .pointer (some ⟨b108, o109 + j * 4 + 2, none⟩)) (hr := (r_field (k := 2) rfl (by kernel_rfl) (by kernel_rfl))) (h := ?_)
                        refine W.ld (v := .int .i64 x106.node) (hc := (sgS (later c100 hc114) (by simp))) (h := ?_)
                        refine W.q (v := .pointer (some ⟨b37, 2, none⟩)) (hr := (r_field (k := 2) rfl (by kernel_rfl) (by kernel_rfl))) (h := ?_)
                        refine W.ld (v := .int .i64 x27.node) (hc := (sgS (blk_cell (j := 2) x47 (by kernel_rfl)) (by simp))) (h := ?_)
                        by_cases q117 : (x106.node : Int) = (x27.node : Int)
                        · refine W.q (v := .bool true) (hr := (r_eql (m := x106.node) (n := x27.node) rfl (by kernel_rfl) (by kernel_rfl) (decide_eq_true q117))) (h := ?_)
                          refine W.q (v := .bool true) (hr := (r_pick (b := true) rfl (by kernel_rfl) (by kernel_rfl))) (h := ?_)
                          refine W.endF 99 [(0, .agg #[.int .i64 m, .slice A n c]), (1, .slice A2 n2 c2), (2, .pointer (some ⟨b2, 0, none⟩)), (4, .bool false), (5, .int .i64 (((k + 1) : Nat) : Int)), (6, .pointer (some ⟨b37, 0, none⟩)), (7, .int .i64 (findL ps x27.pipe)), (8, .int .i64 ((j : Nat) : Int)), (16, .bool false), (20, .bool true), (75, .bool false), (78, .bool true), (98, .bool true)] (fun U118 => ?_)
                          have x6 := SG.blk s105 x6 (by simp)
                          have x47 := SG.blk s105 x47 (by simp)
                          have c119 := (SG.belowR c100 s105 (fun kq e => by cases e))
                          refine h23 _ _ ?_
                          refine wp_cond_true (by kernel_rfl) ?_
                          refine wp_seq_k (fun K24 h24 => ?_)
                          refine W.region_quiet [(0, false)] (by kernel_rfl) ?_
                          refine W.as (v := .bool false) (h := ?_)
                          refine W.endF 99 [(0, .agg #[.int .i64 m, .slice A n c]), (1, .slice A2 n2 c2), (2, .pointer (some ⟨b2, 0, none⟩)), (4, .bool false), (5, .int .i64 (((k + 1) : Nat) : Int)), (6, .pointer (some ⟨b37, 0, none⟩)), (7, .int .i64 (findL ps x27.pipe)), (8, .int .i64 ((j : Nat) : Int)), (16, .bool false), (20, .bool true), (75, .bool false), (78, .bool true), (98, .bool true)] (fun U120 => ?_)
                          refine h24 _ _ ?_
                          refine wp_ret ?_
                          try simp only [Exit.then, Exit.inBlock]
                          refine ret1 (v := .bool false) rfl (by kernel_rfl) ?_
                          have e8 : okV ps vs (k + 1) = false := Bool.eq_false_iff.2 (fun h9 => by
                            have h8 := (okV_iff hx28).1 h9
                            obtain ⟨⟨hA, hB⟩, hC, hD⟩ := h8
                            obtain ⟨hC0, p9, hp9, hC1⟩ := endAt_pos hC
                            have hB' := of_decide_eq_true ((above_next hx65).symm.trans hB)
                            obtain rfl := Option.some.inj (hp9.symm.trans hx83)
                            exact absurd (placed_yes (k := k + 1) (a := x27.pipe) (b := x27.node) hx107 (by omega) q116 q117) (by rw [hD]; simp))
                          exact ⟨ret_bool (goodV_bad (k := k + 1) (by omega) e8).symm, c119⟩
                        · refine W.q (v := .bool false) (hr := (r_eql (m := x106.node) (n := x27.node) rfl (by kernel_rfl) (by kernel_rfl) (decide_eq_false q117))) (h := ?_)
                          refine W.q (v := .bool false) (hr := (r_pick (b := true) rfl (by kernel_rfl) (by kernel_rfl))) (h := ?_)
                          refine W.endF 99 [(0, .agg #[.int .i64 m, .slice A n c]), (1, .slice A2 n2 c2), (2, .pointer (some ⟨b2, 0, none⟩)), (4, .bool false), (5, .int .i64 (((k + 1) : Nat) : Int)), (6, .pointer (some ⟨b37, 0, none⟩)), (7, .int .i64 (findL ps x27.pipe)), (8, .int .i64 ((j : Nat) : Int)), (16, .bool false), (20, .bool true), (75, .bool false), (78, .bool true), (98, .bool false)] (fun U121 => ?_)
                          have x6 := SG.blk s105 x6 (by simp)
                          have x47 := SG.blk s105 x47 (by simp)
                          have c122 := (SG.belowR c100 s105 (fun kq e => by cases e))
                          refine h23 _ _ ?_
                          refine wp_cond_false (by kernel_rfl) ?_
                          refine wp_skip ?_
                          refine h22 _ _ ?_
                          refine W.region_quiet [(0, false), (1, false), (2, false)] (by kernel_rfl) ?_
                          refine W.mv (v := .int .i64 ((j : Nat) : Int)) (h := ?_)
                          refine W.q (v := .int .i64 ((j + 1 : Nat) : Int)) (hr := (r_add (m := ((j : Nat) : Int)) (n := 1) (z := ((j + 1 : Nat) : Int)) rfl (by kernel_rfl) (by kernel_rfl) (by omega) (by omega))) (h := ?_)
                          refine W.as (v := .int .i64 ((j + 1 : Nat) : Int)) (h := ?_)
                          refine W.endF 99 [(0, .agg #[.int .i64 m, .slice A n c]), (1, .slice A2 n2 c2), (2, .pointer (some ⟨b2, 0, none⟩)), (4, .bool false), (5, .int .i64 (((k + 1) : Nat) : Int)), (6, .pointer (some ⟨b37, 0, none⟩)), (7, .int .i64 (findL ps x27.pipe)), (8, .int .i64 ((j + 1 : Nat) : Int)), (16, .bool false), (20, .bool true), (75, .bool false), (78, .bool true), (98, .bool false)] (fun U123 => ?_)
                          exact h19 _ _ _ (by omega : ((k + 1) - (j + 1)) < _) ⟨j + 1, (fun iU9 => lk [(0, .agg #[.int .i64 m, .slice A n c]), (1, .slice A2 n2 c2), (2, .pointer (some ⟨b2, 0, none⟩)), (4, .bool false), (5, .int .i64 (((k + 1) : Nat) : Int)), (6, .pointer (some ⟨b37, 0, none⟩)), (7, .int .i64 (findL ps x27.pipe)), (8, .int .i64 ((j + 1 : Nat) : Int)), (16, .bool false), (20, .bool true), (75, .bool false), (78, .bool true), (98, .bool false)] iU9 (U123 iU9)), (by kernel_rfl), rfl, (by omega), (upto_succ (Q := fun z => ¬ (z.pipe = x27.pipe ∧ z.node = x27.node)) hno hx107 (by omega)), x6, x47, c122⟩
                      · refine W.q (v := .bool false) (hr := (r_eql (m := x106.pipe) (n := x27.pipe) rfl (by kernel_rfl) (by kernel_rfl) (decide_eq_false q116))) (h := ?_)
                        refine W.mv (v := .bool false) (h := ?_)
                        refine W.sp s105 (h := ?_)
                        refine W.sp s105 (h := ?_)
                        refine W.sp s105 (h := ?_)
                        refine W.sp s105 (h := ?_)
                        refine W.sp s105 (h := ?_)
                        refine W.sp s105 (h := ?_)
                        refine W.sp s105 (h := ?_)
                        refine W.sp s105 (h := ?_)
                        refine W.q (v := .bool false) (hr := (r_pick (b := false) rfl (by kernel_rfl) (by kernel_rfl))) (h := ?_)
                        refine W.endF 99 [(0, .agg #[.int .i64 m, .slice A n c]), (1, .slice A2 n2 c2), (2, .pointer (some ⟨b2, 0, none⟩)), (4, .bool false), (5, .int .i64 (((k + 1) : Nat) : Int)), (6, .pointer (some ⟨b37, 0, none⟩)), (7, .int .i64 (findL ps x27.pipe)), (8, .int .i64 ((j : Nat) : Int)), (16, .bool false), (20, .bool true), (75, .bool false), (78, .bool true), (98, .bool false)] (fun U124 => ?_)
                        have x6 := SG.blk s105 x6 (by simp)
                        have x47 := SG.blk s105 x47 (by simp)
                        have c125 := (SG.belowR c100 s105 (fun kq e => by cases e))
                        refine h23 _ _ ?_
                        refine wp_cond_false (by kernel_rfl) ?_
                        refine wp_skip ?_
                        refine h22 _ _ ?_
                        refine W.region_quiet [(0, false), (1, false), (2, false)] (by kernel_rfl) ?_
                        refine W.mv (v := .int .i64 ((j : Nat) : Int)) (h := ?_)
                        refine W.q (v := .int .i64 ((j + 1 : Nat) : Int)) (hr := (r_add (m := ((j : Nat) : Int)) (n := 1) (z := ((j + 1 : Nat) : Int)) rfl (by kernel_rfl) (by kernel_rfl) (by omega) (by omega))) (h := ?_)
                        refine W.as (v := .int .i64 ((j + 1 : Nat) : Int)) (h := ?_)
                        refine W.endF 99 [(0, .agg #[.int .i64 m, .slice A n c]), (1, .slice A2 n2 c2), (2, .pointer (some ⟨b2, 0, none⟩)), (4, .bool false), (5, .int .i64 (((k + 1) : Nat) : Int)), (6, .pointer (some ⟨b37, 0, none⟩)), (7, .int .i64 (findL ps x27.pipe)), (8, .int .i64 ((j + 1 : Nat) : Int)), (16, .bool false), (20, .bool true), (75, .bool false), (78, .bool true), (98, .bool false)] (fun U126 => ?_)
                        exact h19 _ _ _ (by omega : ((k + 1) - (j + 1)) < _) ⟨j + 1, (fun iU9 => lk [(0, .agg #[.int .i64 m, .slice A n c]), (1, .slice A2 n2 c2), (2, .pointer (some ⟨b2, 0, none⟩)), (4, .bool false), (5, .int .i64 (((k + 1) : Nat) : Int)), (6, .pointer (some ⟨b37, 0, none⟩)), (7, .int .i64 (findL ps x27.pipe)), (8, .int .i64 ((j + 1 : Nat) : Int)), (16, .bool false), (20, .bool true), (75, .bool false), (78, .bool true), (98, .bool false)] iU9 (U126 iU9)), (by kernel_rfl), rfl, (by omega), (upto_succ (Q := fun z => ¬ (z.pipe = x27.pipe ∧ z.node = x27.node)) hno hx107 (by omega)), x6, x47, c125⟩
                    · refine W.q (v := .bool false) (hr := (r_lss (m := ((j : Nat) : Int)) (n := (((k + 1) : Nat) : Int)) rfl (by kernel_rfl) (by kernel_rfl) (decide_eq_false q101))) (h := ?_)
                      refine W.endF 99 [(0, .agg #[.int .i64 m, .slice A n c]), (1, .slice A2 n2 c2), (2, .pointer (some ⟨b2, 0, none⟩)), (4, .bool false), (5, .int .i64 (((k + 1) : Nat) : Int)), (6, .pointer (some ⟨b37, 0, none⟩)), (7, .int .i64 (findL ps x27.pipe)), (8, .int .i64 ((j : Nat) : Int)), (16, .bool false), (20, .bool true), (75, .bool false), (78, .bool false)] (fun U127 => ?_)
                      refine h21 _ _ ?_
                      refine wp_cond_false (by kernel_rfl) ?_
                      refine wp_exit ?_
                      refine h10 _ _ ?_
                      refine W.region_quiet [(0, false), (1, false), (2, false)] (by kernel_rfl) ?_
                      refine W.mv (v := .int .i64 (((k + 1) : Nat) : Int)) (h := ?_)
                      refine W.q (v := .int .i64 (((k + 1) + 1 : Nat) : Int)) (hr := (r_add (m := (((k + 1) : Nat) : Int)) (n := 1) (z := (((k + 1) + 1 : Nat) : Int)) rfl (by kernel_rfl) (by kernel_rfl) (by omega) (by omega))) (h := ?_)
                      refine W.as (v := .int .i64 (((k + 1) + 1 : Nat) : Int)) (h := ?_)
                      refine W.endF 99 [(0, .agg #[.int .i64 m, .slice A n c]), (1, .slice A2 n2 c2), (2, .pointer (some ⟨b2, 0, none⟩)), (4, .bool false), (5, .int .i64 (((k + 1) + 1 : Nat) : Int)), (6, .pointer (some ⟨b37, 0, none⟩)), (7, .int .i64 (findL ps x27.pipe)), (8, .int .i64 ((j : Nat) : Int)), (16, .bool false), (20, .bool true), (75, .bool false), (78, .bool false)] (fun U128 => ?_)
                      exact h7 _ _ _ (by omega : (n2 - (k + 1 + 1)) < _) ⟨k + 1 + 1, (fun iU9 => lk [(0, .agg #[.int .i64 m, .slice A n c]), (1, .slice A2 n2 c2), (2, .pointer (some ⟨b2, 0, none⟩)), (4, .bool false), (5, .int .i64 (((k + 1) + 1 : Nat) : Int)), (6, .pointer (some ⟨b37, 0, none⟩)), (7, .int .i64 (findL ps x27.pipe)), (8, .int .i64 ((j : Nat) : Int)), (16, .bool false), (20, .bool true), (75, .bool false), (78, .bool false)] iU9 (U128 iU9)), (by kernel_rfl), rfl, (by omega), (okVTo_next hok ((okV_iff hx28).2 ⟨⟨inB_iff.1 q62, (by rw [above_next hx65]; exact decide_eq_true (by omega))⟩, endAt_of (by omega) hx83 (by omega), placed_no hno (by omega)⟩)), x6, c100⟩
                · refine W.q (v := .bool false) (hr := (r_neq (m := x82.fr) (n := x27.node) rfl (by kernel_rfl) (by kernel_rfl) (decide_eq_false q92))) (h := ?_)
                  refine W.mv (v := .bool false) (h := ?_)
                  refine W.sp s59 (h := ?_)
                  refine W.sp s59 (h := ?_)
                  refine W.sp s59 (h := ?_)
                  refine W.sp s59 (h := ?_)
                  refine W.sp s59 (h := ?_)
                  refine W.sp s59 (h := ?_)
                  refine W.sp s59 (h := ?_)
                  refine W.sp s59 (h := ?_)
                  refine W.sp s59 (h := ?_)
                  refine W.q (v := .bool false) (hr := (r_pick (b := false) rfl (by kernel_rfl) (by kernel_rfl))) (h := ?_)
                  refine W.q (v := .bool false) (hr := (r_pick (b := false) rfl (by kernel_rfl) (by kernel_rfl))) (h := ?_)
                  refine W.endF 99 [(0, .agg #[.int .i64 m, .slice A n c]), (1, .slice A2 n2 c2), (2, .pointer (some ⟨b2, 0, none⟩)), (4, .bool false), (5, .int .i64 (((k + 1) : Nat) : Int)), (6, .pointer (some ⟨b37, 0, none⟩)), (7, .int .i64 (findL ps x27.pipe)), (16, .bool false), (20, .bool true), (75, .bool false)] (fun U129 => ?_)
                  have x6 := SG.blk s59 x6 (by simp)
                  have x47 := SG.blk s59 x47 (by simp)
                  have c130 := (SG.belowR c56 s59 (fun kq e => by cases e))
                  refine h14 _ _ ?_
                  refine wp_cond_false (by kernel_rfl) ?_
                  refine wp_skip ?_
                  refine h13 _ _ ?_
                  refine wp_seq_k (fun K25 h25 => ?_)
                  refine W.region_quiet [(0, false)] (by kernel_rfl) ?_
                  refine W.as (v := .int .i64 0) (h := ?_)
                  refine W.endF 99 [(0, .agg #[.int .i64 m, .slice A n c]), (1, .slice A2 n2 c2), (2, .pointer (some ⟨b2, 0, none⟩)), (4, .bool false), (5, .int .i64 (((k + 1) : Nat) : Int)), (6, .pointer (some ⟨b37, 0, none⟩)), (7, .int .i64 (findL ps x27.pipe)), (8, .int .i64 0), (16, .bool false), (20, .bool true), (75, .bool false)] (fun U131 => ?_)
                  refine h25 _ _ ?_
                  refine wp_block ?_
                  refine loopK (fun am1 aa1 wl1 => ∃ (j : Nat) (U1 : Nat → Value), aa1 = ⟨(fr U1 [(0, .agg #[.int .i64 m, .slice A n c]), (1, .slice A2 n2 c2), (2, .pointer (some ⟨b2, 0, none⟩)), (4, .bool false), (5, .int .i64 (((k + 1) : Nat) : Int)), (6, .pointer (some ⟨b37, 0, none⟩)), (7, .int .i64 (findL ps x27.pipe)), (8, .int .i64 ((j : Nat) : Int)), (16, .bool false), (20, .bool true), (75, .bool false)] 99 0).toArray, []⟩ ∧ (am1 = (k + 1) - j) ∧ (j ≤ k + 1) ∧ (∀ i z, i < j → vs[i]? = some z → ¬ (z.pipe = x27.pipe ∧ z.node = x27.node)) ∧ (wl1.heap[b2]? = some (.cells #[.int .i64 m, .slice A n c] 32 (0, 0))) ∧ (wl1.heap[b37]? = some (.cells #[.int .i64 x27.id, .int .i64 x27.pipe, .int .i64 x27.node, .bool x27.shut] 60 (0, 0))) ∧ (Below w.heap.size w wl1)) ((k + 1) - 0) ?_ ?_
                  · exact ⟨0, (fun iU9 => lk [(0, .agg #[.int .i64 m, .slice A n c]), (1, .slice A2 n2 c2), (2, .pointer (some ⟨b2, 0, none⟩)), (4, .bool false), (5, .int .i64 (((k + 1) : Nat) : Int)), (6, .pointer (some ⟨b37, 0, none⟩)), (7, .int .i64 (findL ps x27.pipe)), (8, .int .i64 0), (16, .bool false), (20, .bool true), (75, .bool false)] iU9 (U131 iU9)), (by kernel_rfl), rfl, (Nat.zero_le _), (fun i z hi => absurd hi (by omega)), x6, x47, c130⟩
                  rintro am1 aa1 wl1 K26 h26 ⟨j, U1, rfl, rfl, hj, hno, x6, x47, c132⟩
                  refine wp_seq_k (fun K27 h27 => ?_)
                  refine wp_seq_k (fun K28 h28 => ?_)
                  refine W.region_quiet [(0, false), (1, false), (2, false)] (by kernel_rfl) ?_
                  refine W.mv (v := .int .i64 ((j : Nat) : Int)) (h := ?_)
                  refine W.mv (v := .int .i64 (((k + 1) : Nat) : Int)) (h := ?_)
                  by_cases q133 : (((j : Nat) : Int) : Int) < ((((k + 1) : Nat) : Int) : Int)
                  · refine W.q (v := .bool true) (hr := (r_lss (m := ((j : Nat) : Int)) (n := (((k + 1) : Nat) : Int)) rfl (by kernel_rfl) (by kernel_rfl) (decide_eq_true q133))) (h := ?_)
                    refine W.endF 99 [(0, .agg #[.int .i64 m, .slice A n c]), (1, .slice A2 n2 c2), (2, .pointer (some ⟨b2, 0, none⟩)), (4, .bool false), (5, .int .i64 (((k + 1) : Nat) : Int)), (6, .pointer (some ⟨b37, 0, none⟩)), (7, .int .i64 (findL ps x27.pipe)), (8, .int .i64 ((j : Nat) : Int)), (16, .bool false), (20, .bool true), (75, .bool false), (78, .bool true)] (fun U134 => ?_)
                    refine h28 _ _ ?_
                    refine wp_cond_true (by kernel_rfl) ?_
                    refine wp_skip ?_
                    refine h27 _ _ ?_
                    refine wp_seq_k (fun K29 h29 => ?_)
                    refine wp_block ?_
                    refine wp_seq_k (fun K30 h30 => ?_)
                    refine W.region_sch (row := none) (Sch.of [(0, false), (1, false), (2, false), (3, false), (4, false), (5, false), (6, false), (7, false), (8, false), (9, false), (10, false), (11, false), (12, false), (13, false), (14, false), (15, false), (16, false), (17, false)]) (by kernel_rfl) (by kernel_rfl) (fun _ d _ _ _ h => by cases d <;> exact h) (by kernel_rfl) (fun w135 e136 s137 => ?_)
                    refine W.mv (v := .slice A2 n2 c2) (h := ?_)
                    refine W.mv (v := .int .i64 ((j : Nat) : Int)) (h := ?_)
                    obtain ⟨x138, hx139⟩ := get_of (zs := vs) (k := j) (by have := hl2; omega)
                    obtain ⟨b140, o141, hA142, hb143, hc144, hc145, hc146, hc147⟩ := Rd.elValve hb hx139
                    refine W.q (v := .pointer (some ⟨b140, o141 + j * 4, none⟩)) (hr := (r_idx (n := n2) (c := c2) (k := j) rfl (by kernel_rfl) hA142 (by kernel_rfl) (by kernel_rfl) (by have := hl2; omega))) (h := ?_)
                    refine W.q (v := .pointer (some ⟨b140, o141 + j * 4 + 1, none⟩)) (hr := (r_field (k := 1) rfl (by kernel_rfl) (by kernel_rfl))) (h := ?_)
                    refine W.ld (v := .int .i64 x138.pipe) (hc := (sgS (later c132 hc145) (by simp))) (h := ?_)
                    refine W.q (v := .pointer (some ⟨b37, 1, none⟩)) (hr := (r_field (k := 1) rfl (by kernel_rfl) (by kernel_rfl))) (h := ?_)
                    refine W.ld (v := .int .i64 x27.pipe) (hc := (sgS (blk_cell (j := 1) x47 (by kernel_rfl)) (by simp))) (h := ?_)
                    by_cases q148 : (x138.pipe : Int) = (x27.pipe : Int)
                    · refine W.q (v := .bool true) (hr := (r_eql (m := x138.pipe) (n := x27.pipe) rfl (by kernel_rfl) (by kernel_rfl) (decide_eq_true q148))) (h := ?_)
                      refine W.mv (v := .bool true) (h := ?_)
                      refine W.mv (v := .slice A2 n2 c2) (h := ?_)
                      refine W.mv (v := .int .i64 ((j : Nat) : Int)) (h := ?_)
                      refine W.q (v := .pointer (some ⟨b140, o141 + j * 4, none⟩)) (hr := (r_idx (n := n2) (c := c2) (k := j) rfl (by kernel_rfl) hA142 (by kernel_rfl) (by kernel_rfl) (by have := hl2; omega))) (h := ?_)
                      refine W.q (v := .pointer (some ⟨b140, o141 + j * 4 + 2, none⟩)) (hr := (r_field (k := 2) rfl (by kernel_rfl) (by kernel_rfl))) (h := ?_)
                      refine W.ld (v := .int .i64 x138.node) (hc := (sgS (later c132 hc146) (by simp))) (h := ?_)
                      refine W.q (v := .pointer (some ⟨b37, 2, none⟩)) (hr := (r_field (k := 2) rfl (by kernel_rfl) (by kernel_rfl))) (h := ?_)
                      refine W.ld (v := .int .i64 x27.node) (hc := (sgS (blk_cell (j := 2) x47 (by kernel_rfl)) (by simp))) (h := ?_)
                      by_cases q149 : (x138.node : Int) = (x27.node : Int)
                      · refine W.q (v := .bool true) (hr := (r_eql (m := x138.node) (n := x27.node) rfl (by kernel_rfl) (by kernel_rfl) (decide_eq_true q149))) (h := ?_)
                        refine W.q (v := .bool true) (hr := (r_pick (b := true) rfl (by kernel_rfl) (by kernel_rfl))) (h := ?_)
                        refine W.endF 99 [(0, .agg #[.int .i64 m, .slice A n c]), (1, .slice A2 n2 c2), (2, .pointer (some ⟨b2, 0, none⟩)), (4, .bool false), (5, .int .i64 (((k + 1) : Nat) : Int)), (6, .pointer (some ⟨b37, 0, none⟩)), (7, .int .i64 (findL ps x27.pipe)), (8, .int .i64 ((j : Nat) : Int)), (16, .bool false), (20, .bool true), (75, .bool false), (78, .bool true), (98, .bool true)] (fun U150 => ?_)
                        have x6 := SG.blk s137 x6 (by simp)
                        have x47 := SG.blk s137 x47 (by simp)
                        have c151 := (SG.belowR c132 s137 (fun kq e => by cases e))
                        refine h30 _ _ ?_
                        refine wp_cond_true (by kernel_rfl) ?_
                        refine wp_seq_k (fun K31 h31 => ?_)
                        refine W.region_quiet [(0, false)] (by kernel_rfl) ?_
                        refine W.as (v := .bool false) (h := ?_)
                        refine W.endF 99 [(0, .agg #[.int .i64 m, .slice A n c]), (1, .slice A2 n2 c2), (2, .pointer (some ⟨b2, 0, none⟩)), (4, .bool false), (5, .int .i64 (((k + 1) : Nat) : Int)), (6, .pointer (some ⟨b37, 0, none⟩)), (7, .int .i64 (findL ps x27.pipe)), (8, .int .i64 ((j : Nat) : Int)), (16, .bool false), (20, .bool true), (75, .bool false), (78, .bool true), (98, .bool true)] (fun U152 => ?_)
                        refine h31 _ _ ?_
                        refine wp_ret ?_
                        try simp only [Exit.then, Exit.inBlock]
                        refine ret1 (v := .bool false) rfl (by kernel_rfl) ?_
                        have e8 : okV ps vs (k + 1) = false := Bool.eq_false_iff.2 (fun h9 => by
                          have h8 := (okV_iff hx28).1 h9
                          obtain ⟨⟨hA, hB⟩, hC, hD⟩ := h8
                          obtain ⟨hC0, p9, hp9, hC1⟩ := endAt_pos hC
                          have hB' := of_decide_eq_true ((above_next hx65).symm.trans hB)
                          obtain rfl := Option.some.inj (hp9.symm.trans hx83)
                          exact absurd (placed_yes (k := k + 1) (a := x27.pipe) (b := x27.node) hx139 (by omega) q148 q149) (by rw [hD]; simp))
                        exact ⟨ret_bool (goodV_bad (k := k + 1) (by omega) e8).symm, c151⟩
                      · refine W.q (v := .bool false) (hr := (r_eql (m := x138.node) (n := x27.node) rfl (by kernel_rfl) (by kernel_rfl) (decide_eq_false q149))) (h := ?_)
                        refine W.q (v := .bool false) (hr := (r_pick (b := true) rfl (by kernel_rfl) (by kernel_rfl))) (h := ?_)
                        refine W.endF 99 [(0, .agg #[.int .i64 m, .slice A n c]), (1, .slice A2 n2 c2), (2, .pointer (some ⟨b2, 0, none⟩)), (4, .bool false), (5, .int .i64 (((k + 1) : Nat) : Int)), (6, .pointer (some ⟨b37, 0, none⟩)), (7, .int .i64 (findL ps x27.pipe)), (8, .int .i64 ((j : Nat) : Int)), (16, .bool false), (20, .bool true), (75, .bool false), (78, .bool true), (98, .bool false)] (fun U153 => ?_)
                        have x6 := SG.blk s137 x6 (by simp)
                        have x47 := SG.blk s137 x47 (by simp)
                        have c154 := (SG.belowR c132 s137 (fun kq e => by cases e))
                        refine h30 _ _ ?_
                        refine wp_cond_false (by kernel_rfl) ?_
                        refine wp_skip ?_
                        refine h29 _ _ ?_
                        refine W.region_quiet [(0, false), (1, false), (2, false)] (by kernel_rfl) ?_
                        refine W.mv (v := .int .i64 ((j : Nat) : Int)) (h := ?_)
                        refine W.q (v := .int .i64 ((j + 1 : Nat) : Int)) (hr := (r_add (m := ((j : Nat) : Int)) (n := 1) (z := ((j + 1 : Nat) : Int)) rfl (by kernel_rfl) (by kernel_rfl) (by omega) (by omega))) (h := ?_)
                        refine W.as (v := .int .i64 ((j + 1 : Nat) : Int)) (h := ?_)
                        refine W.endF 99 [(0, .agg #[.int .i64 m, .slice A n c]), (1, .slice A2 n2 c2), (2, .pointer (some ⟨b2, 0, none⟩)), (4, .bool false), (5, .int .i64 (((k + 1) : Nat) : Int)), (6, .pointer (some ⟨b37, 0, none⟩)), (7, .int .i64 (findL ps x27.pipe)), (8, .int .i64 ((j + 1 : Nat) : Int)), (16, .bool false), (20, .bool true), (75, .bool false), (78, .bool true), (98, .bool false)] (fun U155 => ?_)
                        exact h26 _ _ _ (by omega : ((k + 1) - (j + 1)) < _) ⟨j + 1, (fun iU9 => lk [(0, .agg #[.int .i64 m, .slice A n c]), (1, .slice A2 n2 c2), (2, .pointer (some ⟨b2, 0, none⟩)), (4, .bool false), (5, .int .i64 (((k + 1) : Nat) : Int)), (6, .pointer (some ⟨b37, 0, none⟩)), (7, .int .i64 (findL ps x27.pipe)), (8, .int .i64 ((j + 1 : Nat) : Int)), (16, .bool false), (20, .bool true), (75, .bool false), (78, .bool true), (98, .bool false)] iU9 (U155 iU9)), (by kernel_rfl), rfl, (by omega), (upto_succ (Q := fun z => ¬ (z.pipe = x27.pipe ∧ z.node = x27.node)) hno hx139 (by omega)), x6, x47, c154⟩
                    · refine W.q (v := .bool false) (hr := (r_eql (m := x138.pipe) (n := x27.pipe) rfl (by kernel_rfl) (by kernel_rfl) (decide_eq_false q148))) (h := ?_)
                      refine W.mv (v := .bool false) (h := ?_)
                      refine W.sp s137 (h := ?_)
                      refine W.sp s137 (h := ?_)
                      refine W.sp s137 (h := ?_)
                      refine W.sp s137 (h := ?_)
                      refine W.sp s137 (h := ?_)
                      refine W.sp s137 (h := ?_)
                      refine W.sp s137 (h := ?_)
                      refine W.sp s137 (h := ?_)
                      refine W.q (v := .bool false) (hr := (r_pick (b := false) rfl (by kernel_rfl) (by kernel_rfl))) (h := ?_)
                      refine W.endF 99 [(0, .agg #[.int .i64 m, .slice A n c]), (1, .slice A2 n2 c2), (2, .pointer (some ⟨b2, 0, none⟩)), (4, .bool false), (5, .int .i64 (((k + 1) : Nat) : Int)), (6, .pointer (some ⟨b37, 0, none⟩)), (7, .int .i64 (findL ps x27.pipe)), (8, .int .i64 ((j : Nat) : Int)), (16, .bool false), (20, .bool true), (75, .bool false), (78, .bool true), (98, .bool false)] (fun U156 => ?_)
                      have x6 := SG.blk s137 x6 (by simp)
                      have x47 := SG.blk s137 x47 (by simp)
                      have c157 := (SG.belowR c132 s137 (fun kq e => by cases e))
                      refine h30 _ _ ?_
                      refine wp_cond_false (by kernel_rfl) ?_
                      refine wp_skip ?_
                      refine h29 _ _ ?_
                      refine W.region_quiet [(0, false), (1, false), (2, false)] (by kernel_rfl) ?_
                      refine W.mv (v := .int .i64 ((j : Nat) : Int)) (h := ?_)
                      refine W.q (v := .int .i64 ((j + 1 : Nat) : Int)) (hr := (r_add (m := ((j : Nat) : Int)) (n := 1) (z := ((j + 1 : Nat) : Int)) rfl (by kernel_rfl) (by kernel_rfl) (by omega) (by omega))) (h := ?_)
                      refine W.as (v := .int .i64 ((j + 1 : Nat) : Int)) (h := ?_)
                      refine W.endF 99 [(0, .agg #[.int .i64 m, .slice A n c]), (1, .slice A2 n2 c2), (2, .pointer (some ⟨b2, 0, none⟩)), (4, .bool false), (5, .int .i64 (((k + 1) : Nat) : Int)), (6, .pointer (some ⟨b37, 0, none⟩)), (7, .int .i64 (findL ps x27.pipe)), (8, .int .i64 ((j + 1 : Nat) : Int)), (16, .bool false), (20, .bool true), (75, .bool false), (78, .bool true), (98, .bool false)] (fun U158 => ?_)
                      exact h26 _ _ _ (by omega : ((k + 1) - (j + 1)) < _) ⟨j + 1, (fun iU9 => lk [(0, .agg #[.int .i64 m, .slice A n c]), (1, .slice A2 n2 c2), (2, .pointer (some ⟨b2, 0, none⟩)), (4, .bool false), (5, .int .i64 (((k + 1) : Nat) : Int)), (6, .pointer (some ⟨b37, 0, none⟩)), (7, .int .i64 (findL ps x27.pipe)), (8, .int .i64 ((j + 1 : Nat) : Int)), (16, .bool false), (20, .bool true), (75, .bool false), (78, .bool true), (98, .bool false)] iU9 (U158 iU9)), (by kernel_rfl), rfl, (by omega), (upto_succ (Q := fun z => ¬ (z.pipe = x27.pipe ∧ z.node = x27.node)) hno hx139 (by omega)), x6, x47, c157⟩
                  · refine W.q (v := .bool false) (hr := (r_lss (m := ((j : Nat) : Int)) (n := (((k + 1) : Nat) : Int)) rfl (by kernel_rfl) (by kernel_rfl) (decide_eq_false q133))) (h := ?_)
                    refine W.endF 99 [(0, .agg #[.int .i64 m, .slice A n c]), (1, .slice A2 n2 c2), (2, .pointer (some ⟨b2, 0, none⟩)), (4, .bool false), (5, .int .i64 (((k + 1) : Nat) : Int)), (6, .pointer (some ⟨b37, 0, none⟩)), (7, .int .i64 (findL ps x27.pipe)), (8, .int .i64 ((j : Nat) : Int)), (16, .bool false), (20, .bool true), (75, .bool false), (78, .bool false)] (fun U159 => ?_)
                    refine h28 _ _ ?_
                    refine wp_cond_false (by kernel_rfl) ?_
                    refine wp_exit ?_
                    refine h10 _ _ ?_
                    refine W.region_quiet [(0, false), (1, false), (2, false)] (by kernel_rfl) ?_
                    refine W.mv (v := .int .i64 (((k + 1) : Nat) : Int)) (h := ?_)
                    refine W.q (v := .int .i64 (((k + 1) + 1 : Nat) : Int)) (hr := (r_add (m := (((k + 1) : Nat) : Int)) (n := 1) (z := (((k + 1) + 1 : Nat) : Int)) rfl (by kernel_rfl) (by kernel_rfl) (by omega) (by omega))) (h := ?_)
                    refine W.as (v := .int .i64 (((k + 1) + 1 : Nat) : Int)) (h := ?_)
                    refine W.endF 99 [(0, .agg #[.int .i64 m, .slice A n c]), (1, .slice A2 n2 c2), (2, .pointer (some ⟨b2, 0, none⟩)), (4, .bool false), (5, .int .i64 (((k + 1) + 1 : Nat) : Int)), (6, .pointer (some ⟨b37, 0, none⟩)), (7, .int .i64 (findL ps x27.pipe)), (8, .int .i64 ((j : Nat) : Int)), (16, .bool false), (20, .bool true), (75, .bool false), (78, .bool false)] (fun U160 => ?_)
                    exact h7 _ _ _ (by omega : (n2 - (k + 1 + 1)) < _) ⟨k + 1 + 1, (fun iU9 => lk [(0, .agg #[.int .i64 m, .slice A n c]), (1, .slice A2 n2 c2), (2, .pointer (some ⟨b2, 0, none⟩)), (4, .bool false), (5, .int .i64 (((k + 1) + 1 : Nat) : Int)), (6, .pointer (some ⟨b37, 0, none⟩)), (7, .int .i64 (findL ps x27.pipe)), (8, .int .i64 ((j : Nat) : Int)), (16, .bool false), (20, .bool true), (75, .bool false), (78, .bool false)] iU9 (U160 iU9)), (by kernel_rfl), rfl, (by omega), (okVTo_next hok ((okV_iff hx28).2 ⟨⟨inB_iff.1 q62, (by rw [above_next hx65]; exact decide_eq_true (by omega))⟩, endAt_of (by omega) hx83 (by omega), placed_no hno (by omega)⟩)), x6, c132⟩
          · refine W.q (v := .bool false) (hr := (r_gtr (m := ((K : Nat) : Int)) (n := 0) rfl (by kernel_rfl) (by kernel_rfl) (decide_eq_false q63))) (h := ?_)
            refine W.mv (v := .bool false) (h := ?_)
            refine W.sp s59 (h := ?_)
            refine W.sp s59 (h := ?_)
            refine W.sp s59 (h := ?_)
            refine W.sp s59 (h := ?_)
            refine W.sp s59 (h := ?_)
            refine W.sp s59 (h := ?_)
            refine W.sp s59 (h := ?_)
            refine W.sp s59 (h := ?_)
            refine W.sp s59 (h := ?_)
            refine W.q (v := .bool false) (hr := (r_pick (b := false) rfl (by kernel_rfl) (by kernel_rfl))) (h := ?_)
            refine W.q (v := .bool false) (hr := (r_pick (b := false) rfl (by kernel_rfl) (by kernel_rfl))) (h := ?_)
            refine W.mv (v := .bool false) (h := ?_)
            refine W.mv (v := .int .i64 (findL ps x27.pipe)) (h := ?_)
            by_cases q161 : (findL ps x27.pipe : Int) < (0 : Int)
            · refine W.q (v := .bool true) (hr := (r_lss (m := findL ps x27.pipe) (n := 0) rfl (by kernel_rfl) (by kernel_rfl) (decide_eq_true q161))) (h := ?_)
              refine W.q (v := .bool true) (hr := (r_pick (b := false) rfl (by kernel_rfl) (by kernel_rfl))) (h := ?_)
              refine W.mv (v := .bool true) (h := ?_)
              refine W.sp s59 (h := ?_)
              refine W.sp s59 (h := ?_)
              refine W.sp s59 (h := ?_)
              refine W.sp s59 (h := ?_)
              refine W.sp s59 (h := ?_)
              refine W.sp s59 (h := ?_)
              refine W.sp s59 (h := ?_)
              refine W.sp s59 (h := ?_)
              refine W.sp s59 (h := ?_)
              refine W.sp s59 (h := ?_)
              refine W.sp s59 (h := ?_)
              refine W.sp s59 (h := ?_)
              refine W.sp s59 (h := ?_)
              refine W.sp s59 (h := ?_)
              refine W.sp s59 (h := ?_)
              refine W.sp s59 (h := ?_)
              refine W.sp s59 (h := ?_)
              refine W.sp s59 (h := ?_)
              refine W.sp s59 (h := ?_)
              refine W.sp s59 (h := ?_)
              refine W.q (v := .bool true) (hr := (r_pick (b := true) rfl (by kernel_rfl) (by kernel_rfl))) (h := ?_)
              refine W.endF 99 [(0, .agg #[.int .i64 m, .slice A n c]), (1, .slice A2 n2 c2), (2, .pointer (some ⟨b2, 0, none⟩)), (4, .bool false), (5, .int .i64 ((K : Nat) : Int)), (6, .pointer (some ⟨b37, 0, none⟩)), (7, .int .i64 (findL ps x27.pipe)), (16, .bool false), (20, .bool true), (75, .bool true)] (fun U162 => ?_)
              have x6 := SG.blk s59 x6 (by simp)
              have x47 := SG.blk s59 x47 (by simp)
              have c163 := (SG.belowR c56 s59 (fun kq e => by cases e))
              refine h14 _ _ ?_
              refine wp_cond_true (by kernel_rfl) ?_
              refine wp_seq_k (fun K32 h32 => ?_)
              refine W.region_quiet [(0, false)] (by kernel_rfl) ?_
              refine W.as (v := .bool false) (h := ?_)
              refine W.endF 99 [(0, .agg #[.int .i64 m, .slice A n c]), (1, .slice A2 n2 c2), (2, .pointer (some ⟨b2, 0, none⟩)), (4, .bool false), (5, .int .i64 ((K : Nat) : Int)), (6, .pointer (some ⟨b37, 0, none⟩)), (7, .int .i64 (findL ps x27.pipe)), (16, .bool false), (20, .bool true), (75, .bool true)] (fun U164 => ?_)
              refine h32 _ _ ?_
              refine wp_ret ?_
              try simp only [Exit.then, Exit.inBlock]
              refine ret1 (v := .bool false) rfl (by kernel_rfl) ?_
              have e8 : okV ps vs (K) = false := Bool.eq_false_iff.2 (fun h9 => by
                have h8 := (okV_iff hx28).1 h9
                obtain ⟨⟨hA, hB⟩, hC, hD⟩ := h8
                obtain ⟨hC0, p9, hp9, hC1⟩ := endAt_pos hC
                first | omega | (rw [inB_iff.2 hA] at q62; cases q62))
              exact ⟨ret_bool (goodV_bad (k := K) (by omega) e8).symm, c163⟩
            · refine W.q (v := .bool false) (hr := (r_lss (m := findL ps x27.pipe) (n := 0) rfl (by kernel_rfl) (by kernel_rfl) (decide_eq_false q161))) (h := ?_)
              refine W.q (v := .bool false) (hr := (r_pick (b := false) rfl (by kernel_rfl) (by kernel_rfl))) (h := ?_)
              refine W.mv (v := .bool false) (h := ?_)
              refine W.q (v := .pointer (some ⟨b2, 1, none⟩)) (hr := (r_field (k := 1) rfl (by kernel_rfl) (by kernel_rfl))) (h := ?_)
              refine W.ld (v := .slice A n c) (hc := (sgS (blk_cell (j := 1) x6 (by kernel_rfl)) (by simp))) (h := ?_)
              refine W.mv (v := .int .i64 (findL ps x27.pipe)) (h := ?_)
              have hfl := findL_lt ps x27.pipe
              obtain ⟨x165, hx166⟩ := get_of (zs := ps) (k := (findL ps x27.pipe).toNat) (by have := hl; omega)
              obtain ⟨b167, o168, hA169, hb170, hc171, hc172, hc173, hc174⟩ := Rd.elPipe ha hx166
              refine W.q (v := .pointer (some ⟨b167, o168 + ((findL ps x27.pipe).toNat) * 4, none⟩)) (hr := (r_idx (n := n) (c := c) (k := (findL ps x27.pipe).toNat) rfl (by kernel_rfl) hA169 (evk (z := findL ps x27.pipe) (by kernel_rfl) (by omega)) (by kernel_rfl) (by have := hl; omega))) (h := ?_)
              refine W.q (v := .pointer (some ⟨b167, o168 + ((findL ps x27.pipe).toNat) * 4 + 1, none⟩)) (hr := (r_field (k := 1) rfl (by kernel_rfl) (by kernel_rfl))) (h := ?_)
              refine W.ld (v := .int .i64 x165.fr) (hc := (sgS (later c56 hc172) (by simp))) (h := ?_)
              refine W.q (v := .pointer (some ⟨b37, 2, none⟩)) (hr := (r_field (k := 2) rfl (by kernel_rfl) (by kernel_rfl))) (h := ?_)
              refine W.ld (v := .int .i64 x27.node) (hc := (sgS (blk_cell (j := 2) x47 (by kernel_rfl)) (by simp))) (h := ?_)
              by_cases q175 : (x165.fr : Int) ≠ (x27.node : Int)
              · refine W.q (v := .bool true) (hr := (r_neq (m := x165.fr) (n := x27.node) rfl (by kernel_rfl) (by kernel_rfl) (decide_eq_true q175))) (h := ?_)
                refine W.mv (v := .bool true) (h := ?_)
                refine W.q (v := .pointer (some ⟨b2, 1, none⟩)) (hr := (r_field (k := 1) rfl (by kernel_rfl) (by kernel_rfl))) (h := ?_)
                refine W.ld (v := .slice A n c) (hc := (sgS (blk_cell (j := 1) x6 (by kernel_rfl)) (by simp))) (h := ?_)
                refine W.mv (v := .int .i64 (findL ps x27.pipe)) (h := ?_)
                refine W.q (v := .pointer (some ⟨b167, o168 + ((findL ps x27.pipe).toNat) * 4, none⟩)) (hr := (r_idx (n := n) (c := c) (k := (findL ps x27.pipe).toNat) rfl (by kernel_rfl) hA169 (evk (z := findL ps x27.pipe) (by kernel_rfl) (by omega)) (by kernel_rfl) (by have := hl; omega))) (h := ?_)
                refine W.q (v := .pointer (some ⟨b167, o168 + ((findL ps x27.pipe).toNat) * 4 + 2, none⟩)) (hr := (r_field (k := 2) rfl (by kernel_rfl) (by kernel_rfl))) (h := ?_)
                refine W.ld (v := .int .i64 x165.to) (hc := (sgS (later c56 hc173) (by simp))) (h := ?_)
                refine W.q (v := .pointer (some ⟨b37, 2, none⟩)) (hr := (r_field (k := 2) rfl (by kernel_rfl) (by kernel_rfl))) (h := ?_)
                refine W.ld (v := .int .i64 x27.node) (hc := (sgS (blk_cell (j := 2) x47 (by kernel_rfl)) (by simp))) (h := ?_)
                by_cases q176 : (x165.to : Int) ≠ (x27.node : Int)
                · refine W.q (v := .bool true) (hr := (r_neq (m := x165.to) (n := x27.node) rfl (by kernel_rfl) (by kernel_rfl) (decide_eq_true q176))) (h := ?_)
                  refine W.q (v := .bool true) (hr := (r_pick (b := true) rfl (by kernel_rfl) (by kernel_rfl))) (h := ?_)
                  refine W.q (v := .bool true) (hr := (r_pick (b := false) rfl (by kernel_rfl) (by kernel_rfl))) (h := ?_)
                  refine W.endF 99 [(0, .agg #[.int .i64 m, .slice A n c]), (1, .slice A2 n2 c2), (2, .pointer (some ⟨b2, 0, none⟩)), (4, .bool false), (5, .int .i64 ((K : Nat) : Int)), (6, .pointer (some ⟨b37, 0, none⟩)), (7, .int .i64 (findL ps x27.pipe)), (16, .bool false), (20, .bool true), (75, .bool true)] (fun U177 => ?_)
                  have x6 := SG.blk s59 x6 (by simp)
                  have x47 := SG.blk s59 x47 (by simp)
                  have c178 := (SG.belowR c56 s59 (fun kq e => by cases e))
                  refine h14 _ _ ?_
                  refine wp_cond_true (by kernel_rfl) ?_
                  refine wp_seq_k (fun K33 h33 => ?_)
                  refine W.region_quiet [(0, false)] (by kernel_rfl) ?_
                  refine W.as (v := .bool false) (h := ?_)
                  refine W.endF 99 [(0, .agg #[.int .i64 m, .slice A n c]), (1, .slice A2 n2 c2), (2, .pointer (some ⟨b2, 0, none⟩)), (4, .bool false), (5, .int .i64 ((K : Nat) : Int)), (6, .pointer (some ⟨b37, 0, none⟩)), (7, .int .i64 (findL ps x27.pipe)), (16, .bool false), (20, .bool true), (75, .bool true)] (fun U179 => ?_)
                  refine h33 _ _ ?_
                  refine wp_ret ?_
                  try simp only [Exit.then, Exit.inBlock]
                  refine ret1 (v := .bool false) rfl (by kernel_rfl) ?_
                  have e8 : okV ps vs (K) = false := Bool.eq_false_iff.2 (fun h9 => by
                    have h8 := (okV_iff hx28).1 h9
                    obtain ⟨⟨hA, hB⟩, hC, hD⟩ := h8
                    obtain ⟨hC0, p9, hp9, hC1⟩ := endAt_pos hC
                    obtain rfl := Option.some.inj (hp9.symm.trans hx166)
                    first | omega | (rw [inB_iff.2 hA] at q62; cases q62))
                  exact ⟨ret_bool (goodV_bad (k := K) (by omega) e8).symm, c178⟩
                · refine W.q (v := .bool false) (hr := (r_neq (m := x165.to) (n := x27.node) rfl (by kernel_rfl) (by kernel_rfl) (decide_eq_false q176))) (h := ?_)
                  refine W.q (v := .bool false) (hr := (r_pick (b := true) rfl (by kernel_rfl) (by kernel_rfl))) (h := ?_)
                  refine W.q (v := .bool false) (hr := (r_pick (b := false) rfl (by kernel_rfl) (by kernel_rfl))) (h := ?_)
                  refine W.endF 99 [(0, .agg #[.int .i64 m, .slice A n c]), (1, .slice A2 n2 c2), (2, .pointer (some ⟨b2, 0, none⟩)), (4, .bool false), (5, .int .i64 ((K : Nat) : Int)), (6, .pointer (some ⟨b37, 0, none⟩)), (7, .int .i64 (findL ps x27.pipe)), (16, .bool false), (20, .bool true), (75, .bool false)] (fun U180 => ?_)
                  have x6 := SG.blk s59 x6 (by simp)
                  have x47 := SG.blk s59 x47 (by simp)
                  have c181 := (SG.belowR c56 s59 (fun kq e => by cases e))
                  refine h14 _ _ ?_
                  refine wp_cond_false (by kernel_rfl) ?_
                  refine wp_skip ?_
                  refine h13 _ _ ?_
                  refine wp_seq_k (fun K34 h34 => ?_)
                  refine W.region_quiet [(0, false)] (by kernel_rfl) ?_
                  refine W.as (v := .int .i64 0) (h := ?_)
                  refine W.endF 99 [(0, .agg #[.int .i64 m, .slice A n c]), (1, .slice A2 n2 c2), (2, .pointer (some ⟨b2, 0, none⟩)), (4, .bool false), (5, .int .i64 ((K : Nat) : Int)), (6, .pointer (some ⟨b37, 0, none⟩)), (7, .int .i64 (findL ps x27.pipe)), (8, .int .i64 0), (16, .bool false), (20, .bool true), (75, .bool false)] (fun U182 => ?_)
                  refine h34 _ _ ?_
                  refine wp_block ?_
                  refine loopK (fun am1 aa1 wl1 => ∃ (j : Nat) (U1 : Nat → Value), aa1 = ⟨(fr U1 [(0, .agg #[.int .i64 m, .slice A n c]), (1, .slice A2 n2 c2), (2, .pointer (some ⟨b2, 0, none⟩)), (4, .bool false), (5, .int .i64 ((K : Nat) : Int)), (6, .pointer (some ⟨b37, 0, none⟩)), (7, .int .i64 (findL ps x27.pipe)), (8, .int .i64 ((j : Nat) : Int)), (16, .bool false), (20, .bool true), (75, .bool false)] 99 0).toArray, []⟩ ∧ (am1 = (K) - j) ∧ (j ≤ K) ∧ (∀ i z, i < j → vs[i]? = some z → ¬ (z.pipe = x27.pipe ∧ z.node = x27.node)) ∧ (wl1.heap[b2]? = some (.cells #[.int .i64 m, .slice A n c] 32 (0, 0))) ∧ (wl1.heap[b37]? = some (.cells #[.int .i64 x27.id, .int .i64 x27.pipe, .int .i64 x27.node, .bool x27.shut] 60 (0, 0))) ∧ (Below w.heap.size w wl1)) ((K) - 0) ?_ ?_
                  · exact ⟨0, (fun iU9 => lk [(0, .agg #[.int .i64 m, .slice A n c]), (1, .slice A2 n2 c2), (2, .pointer (some ⟨b2, 0, none⟩)), (4, .bool false), (5, .int .i64 ((K : Nat) : Int)), (6, .pointer (some ⟨b37, 0, none⟩)), (7, .int .i64 (findL ps x27.pipe)), (8, .int .i64 0), (16, .bool false), (20, .bool true), (75, .bool false)] iU9 (U182 iU9)), (by kernel_rfl), rfl, (Nat.zero_le _), (fun i z hi => absurd hi (by omega)), x6, x47, c181⟩
                  rintro am1 aa1 wl1 K35 h35 ⟨j, U1, rfl, rfl, hj, hno, x6, x47, c183⟩
                  refine wp_seq_k (fun K36 h36 => ?_)
                  refine wp_seq_k (fun K37 h37 => ?_)
                  refine W.region_quiet [(0, false), (1, false), (2, false)] (by kernel_rfl) ?_
                  refine W.mv (v := .int .i64 ((j : Nat) : Int)) (h := ?_)
                  refine W.mv (v := .int .i64 ((K : Nat) : Int)) (h := ?_)
                  by_cases q184 : (((j : Nat) : Int) : Int) < (((K : Nat) : Int) : Int)
                  · refine W.q (v := .bool true) (hr := (r_lss (m := ((j : Nat) : Int)) (n := ((K : Nat) : Int)) rfl (by kernel_rfl) (by kernel_rfl) (decide_eq_true q184))) (h := ?_)
                    refine W.endF 99 [(0, .agg #[.int .i64 m, .slice A n c]), (1, .slice A2 n2 c2), (2, .pointer (some ⟨b2, 0, none⟩)), (4, .bool false), (5, .int .i64 ((K : Nat) : Int)), (6, .pointer (some ⟨b37, 0, none⟩)), (7, .int .i64 (findL ps x27.pipe)), (8, .int .i64 ((j : Nat) : Int)), (16, .bool false), (20, .bool true), (75, .bool false), (78, .bool true)] (fun U185 => ?_)
                    refine h37 _ _ ?_
                    refine wp_cond_true (by kernel_rfl) ?_
                    refine wp_skip ?_
                    refine h36 _ _ ?_
                    refine wp_seq_k (fun K38 h38 => ?_)
                    refine wp_block ?_
                    refine wp_seq_k (fun K39 h39 => ?_)
                    refine W.region_sch (row := none) (Sch.of [(0, false), (1, false), (2, false), (3, false), (4, false), (5, false), (6, false), (7, false), (8, false), (9, false), (10, false), (11, false), (12, false), (13, false), (14, false), (15, false), (16, false), (17, false)]) (by kernel_rfl) (by kernel_rfl) (fun _ d _ _ _ h => by cases d <;> exact h) (by kernel_rfl) (fun w186 e187 s188 => ?_)
                    refine W.mv (v := .slice A2 n2 c2) (h := ?_)
                    refine W.mv (v := .int .i64 ((j : Nat) : Int)) (h := ?_)
                    obtain ⟨x189, hx190⟩ := get_of (zs := vs) (k := j) (by have := hl2; omega)
                    obtain ⟨b191, o192, hA193, hb194, hc195, hc196, hc197, hc198⟩ := Rd.elValve hb hx190
                    refine W.q (v := .pointer (some ⟨b191, o192 + j * 4, none⟩)) (hr := (r_idx (n := n2) (c := c2) (k := j) rfl (by kernel_rfl) hA193 (by kernel_rfl) (by kernel_rfl) (by have := hl2; omega))) (h := ?_)
                    refine W.q (v := .pointer (some ⟨b191, o192 + j * 4 + 1, none⟩)) (hr := (r_field (k := 1) rfl (by kernel_rfl) (by kernel_rfl))) (h := ?_)
                    refine W.ld (v := .int .i64 x189.pipe) (hc := (sgS (later c183 hc196) (by simp))) (h := ?_)
                    refine W.q (v := .pointer (some ⟨b37, 1, none⟩)) (hr := (r_field (k := 1) rfl (by kernel_rfl) (by kernel_rfl))) (h := ?_)
                    refine W.ld (v := .int .i64 x27.pipe) (hc := (sgS (blk_cell (j := 1) x47 (by kernel_rfl)) (by simp))) (h := ?_)
                    by_cases q199 : (x189.pipe : Int) = (x27.pipe : Int)
                    · refine W.q (v := .bool true) (hr := (r_eql (m := x189.pipe) (n := x27.pipe) rfl (by kernel_rfl) (by kernel_rfl) (decide_eq_true q199))) (h := ?_)
                      refine W.mv (v := .bool true) (h := ?_)
                      refine W.mv (v := .slice A2 n2 c2) (h := ?_)
                      refine W.mv (v := .int .i64 ((j : Nat) : Int)) (h := ?_)
                      refine W.q (v := .pointer (some ⟨b191, o192 + j * 4, none⟩)) (hr := (r_idx (n := n2) (c := c2) (k := j) rfl (by kernel_rfl) hA193 (by kernel_rfl) (by kernel_rfl) (by have := hl2; omega))) (h := ?_)
                      refine W.q (v := .pointer (some ⟨b191, o192 + j * 4 + 2, none⟩)) (hr := (r_field (k := 2) rfl (by kernel_rfl) (by kernel_rfl))) (h := ?_)
                      refine W.ld (v := .int .i64 x189.node) (hc := (sgS (later c183 hc197) (by simp))) (h := ?_)
                      refine W.q (v := .pointer (some ⟨b37, 2, none⟩)) (hr := (r_field (k := 2) rfl (by kernel_rfl) (by kernel_rfl))) (h := ?_)
                      refine W.ld (v := .int .i64 x27.node) (hc := (sgS (blk_cell (j := 2) x47 (by kernel_rfl)) (by simp))) (h := ?_)
                      by_cases q200 : (x189.node : Int) = (x27.node : Int)
                      · refine W.q (v := .bool true) (hr := (r_eql (m := x189.node) (n := x27.node) rfl (by kernel_rfl) (by kernel_rfl) (decide_eq_true q200))) (h := ?_)
                        refine W.q (v := .bool true) (hr := (r_pick (b := true) rfl (by kernel_rfl) (by kernel_rfl))) (h := ?_)
                        refine W.endF 99 [(0, .agg #[.int .i64 m, .slice A n c]), (1, .slice A2 n2 c2), (2, .pointer (some ⟨b2, 0, none⟩)), (4, .bool false), (5, .int .i64 ((K : Nat) : Int)), (6, .pointer (some ⟨b37, 0, none⟩)), (7, .int .i64 (findL ps x27.pipe)), (8, .int .i64 ((j : Nat) : Int)), (16, .bool false), (20, .bool true), (75, .bool false), (78, .bool true), (98, .bool true)] (fun U201 => ?_)
                        have x6 := SG.blk s188 x6 (by simp)
                        have x47 := SG.blk s188 x47 (by simp)
                        have c202 := (SG.belowR c183 s188 (fun kq e => by cases e))
                        refine h39 _ _ ?_
                        refine wp_cond_true (by kernel_rfl) ?_
                        refine wp_seq_k (fun K40 h40 => ?_)
                        refine W.region_quiet [(0, false)] (by kernel_rfl) ?_
                        refine W.as (v := .bool false) (h := ?_)
                        refine W.endF 99 [(0, .agg #[.int .i64 m, .slice A n c]), (1, .slice A2 n2 c2), (2, .pointer (some ⟨b2, 0, none⟩)), (4, .bool false), (5, .int .i64 ((K : Nat) : Int)), (6, .pointer (some ⟨b37, 0, none⟩)), (7, .int .i64 (findL ps x27.pipe)), (8, .int .i64 ((j : Nat) : Int)), (16, .bool false), (20, .bool true), (75, .bool false), (78, .bool true), (98, .bool true)] (fun U203 => ?_)
                        refine h40 _ _ ?_
                        refine wp_ret ?_
                        try simp only [Exit.then, Exit.inBlock]
                        refine ret1 (v := .bool false) rfl (by kernel_rfl) ?_
                        have e8 : okV ps vs (K) = false := Bool.eq_false_iff.2 (fun h9 => by
                          have h8 := (okV_iff hx28).1 h9
                          obtain ⟨⟨hA, hB⟩, hC, hD⟩ := h8
                          obtain ⟨hC0, p9, hp9, hC1⟩ := endAt_pos hC
                          obtain rfl := Option.some.inj (hp9.symm.trans hx166)
                          exact absurd (placed_yes (k := K) (a := x27.pipe) (b := x27.node) hx190 (by omega) q199 q200) (by rw [hD]; simp))
                        exact ⟨ret_bool (goodV_bad (k := K) (by omega) e8).symm, c202⟩
                      · refine W.q (v := .bool false) (hr := (r_eql (m := x189.node) (n := x27.node) rfl (by kernel_rfl) (by kernel_rfl) (decide_eq_false q200))) (h := ?_)
                        refine W.q (v := .bool false) (hr := (r_pick (b := true) rfl (by kernel_rfl) (by kernel_rfl))) (h := ?_)
                        refine W.endF 99 [(0, .agg #[.int .i64 m, .slice A n c]), (1, .slice A2 n2 c2), (2, .pointer (some ⟨b2, 0, none⟩)), (4, .bool false), (5, .int .i64 ((K : Nat) : Int)), (6, .pointer (some ⟨b37, 0, none⟩)), (7, .int .i64 (findL ps x27.pipe)), (8, .int .i64 ((j : Nat) : Int)), (16, .bool false), (20, .bool true), (75, .bool false), (78, .bool true), (98, .bool false)] (fun U204 => ?_)
                        have x6 := SG.blk s188 x6 (by simp)
                        have x47 := SG.blk s188 x47 (by simp)
                        have c205 := (SG.belowR c183 s188 (fun kq e => by cases e))
                        refine h39 _ _ ?_
                        refine wp_cond_false (by kernel_rfl) ?_
                        refine wp_skip ?_
                        refine h38 _ _ ?_
                        refine W.region_quiet [(0, false), (1, false), (2, false)] (by kernel_rfl) ?_
                        refine W.mv (v := .int .i64 ((j : Nat) : Int)) (h := ?_)
                        refine W.q (v := .int .i64 ((j + 1 : Nat) : Int)) (hr := (r_add (m := ((j : Nat) : Int)) (n := 1) (z := ((j + 1 : Nat) : Int)) rfl (by kernel_rfl) (by kernel_rfl) (by omega) (by omega))) (h := ?_)
                        refine W.as (v := .int .i64 ((j + 1 : Nat) : Int)) (h := ?_)
                        refine W.endF 99 [(0, .agg #[.int .i64 m, .slice A n c]), (1, .slice A2 n2 c2), (2, .pointer (some ⟨b2, 0, none⟩)), (4, .bool false), (5, .int .i64 ((K : Nat) : Int)), (6, .pointer (some ⟨b37, 0, none⟩)), (7, .int .i64 (findL ps x27.pipe)), (8, .int .i64 ((j + 1 : Nat) : Int)), (16, .bool false), (20, .bool true), (75, .bool false), (78, .bool true), (98, .bool false)] (fun U206 => ?_)
                        exact h35 _ _ _ (by omega : ((K) - (j + 1)) < _) ⟨j + 1, (fun iU9 => lk [(0, .agg #[.int .i64 m, .slice A n c]), (1, .slice A2 n2 c2), (2, .pointer (some ⟨b2, 0, none⟩)), (4, .bool false), (5, .int .i64 ((K : Nat) : Int)), (6, .pointer (some ⟨b37, 0, none⟩)), (7, .int .i64 (findL ps x27.pipe)), (8, .int .i64 ((j + 1 : Nat) : Int)), (16, .bool false), (20, .bool true), (75, .bool false), (78, .bool true), (98, .bool false)] iU9 (U206 iU9)), (by kernel_rfl), rfl, (by omega), (upto_succ (Q := fun z => ¬ (z.pipe = x27.pipe ∧ z.node = x27.node)) hno hx190 (by omega)), x6, x47, c205⟩
                    · refine W.q (v := .bool false) (hr := (r_eql (m := x189.pipe) (n := x27.pipe) rfl (by kernel_rfl) (by kernel_rfl) (decide_eq_false q199))) (h := ?_)
                      refine W.mv (v := .bool false) (h := ?_)
                      refine W.sp s188 (h := ?_)
                      refine W.sp s188 (h := ?_)
                      refine W.sp s188 (h := ?_)
                      refine W.sp s188 (h := ?_)
                      refine W.sp s188 (h := ?_)
                      refine W.sp s188 (h := ?_)
                      refine W.sp s188 (h := ?_)
                      refine W.sp s188 (h := ?_)
                      refine W.q (v := .bool false) (hr := (r_pick (b := false) rfl (by kernel_rfl) (by kernel_rfl))) (h := ?_)
                      refine W.endF 99 [(0, .agg #[.int .i64 m, .slice A n c]), (1, .slice A2 n2 c2), (2, .pointer (some ⟨b2, 0, none⟩)), (4, .bool false), (5, .int .i64 ((K : Nat) : Int)), (6, .pointer (some ⟨b37, 0, none⟩)), (7, .int .i64 (findL ps x27.pipe)), (8, .int .i64 ((j : Nat) : Int)), (16, .bool false), (20, .bool true), (75, .bool false), (78, .bool true), (98, .bool false)] (fun U207 => ?_)
                      have x6 := SG.blk s188 x6 (by simp)
                      have x47 := SG.blk s188 x47 (by simp)
                      have c208 := (SG.belowR c183 s188 (fun kq e => by cases e))
                      refine h39 _ _ ?_
                      refine wp_cond_false (by kernel_rfl) ?_
                      refine wp_skip ?_
                      refine h38 _ _ ?_
                      refine W.region_quiet [(0, false), (1, false), (2, false)] (by kernel_rfl) ?_
                      refine W.mv (v := .int .i64 ((j : Nat) : Int)) (h := ?_)
                      refine W.q (v := .int .i64 ((j + 1 : Nat) : Int)) (hr := (r_add (m := ((j : Nat) : Int)) (n := 1) (z := ((j + 1 : Nat) : Int)) rfl (by kernel_rfl) (by kernel_rfl) (by omega) (by omega))) (h := ?_)
                      refine W.as (v := .int .i64 ((j + 1 : Nat) : Int)) (h := ?_)
                      refine W.endF 99 [(0, .agg #[.int .i64 m, .slice A n c]), (1, .slice A2 n2 c2), (2, .pointer (some ⟨b2, 0, none⟩)), (4, .bool false), (5, .int .i64 ((K : Nat) : Int)), (6, .pointer (some ⟨b37, 0, none⟩)), (7, .int .i64 (findL ps x27.pipe)), (8, .int .i64 ((j + 1 : Nat) : Int)), (16, .bool false), (20, .bool true), (75, .bool false), (78, .bool true), (98, .bool false)] (fun U209 => ?_)
                      exact h35 _ _ _ (by omega : ((K) - (j + 1)) < _) ⟨j + 1, (fun iU9 => lk [(0, .agg #[.int .i64 m, .slice A n c]), (1, .slice A2 n2 c2), (2, .pointer (some ⟨b2, 0, none⟩)), (4, .bool false), (5, .int .i64 ((K : Nat) : Int)), (6, .pointer (some ⟨b37, 0, none⟩)), (7, .int .i64 (findL ps x27.pipe)), (8, .int .i64 ((j + 1 : Nat) : Int)), (16, .bool false), (20, .bool true), (75, .bool false), (78, .bool true), (98, .bool false)] iU9 (U209 iU9)), (by kernel_rfl), rfl, (by omega), (upto_succ (Q := fun z => ¬ (z.pipe = x27.pipe ∧ z.node = x27.node)) hno hx190 (by omega)), x6, x47, c208⟩
                  · refine W.q (v := .bool false) (hr := (r_lss (m := ((j : Nat) : Int)) (n := ((K : Nat) : Int)) rfl (by kernel_rfl) (by kernel_rfl) (decide_eq_false q184))) (h := ?_)
                    refine W.endF 99 [(0, .agg #[.int .i64 m, .slice A n c]), (1, .slice A2 n2 c2), (2, .pointer (some ⟨b2, 0, none⟩)), (4, .bool false), (5, .int .i64 ((K : Nat) : Int)), (6, .pointer (some ⟨b37, 0, none⟩)), (7, .int .i64 (findL ps x27.pipe)), (8, .int .i64 ((j : Nat) : Int)), (16, .bool false), (20, .bool true), (75, .bool false), (78, .bool false)] (fun U210 => ?_)
                    refine h37 _ _ ?_
                    refine wp_cond_false (by kernel_rfl) ?_
                    refine wp_exit ?_
                    refine h10 _ _ ?_
                    refine W.region_quiet [(0, false), (1, false), (2, false)] (by kernel_rfl) ?_
                    refine W.mv (v := .int .i64 ((K : Nat) : Int)) (h := ?_)
                    refine W.q (v := .int .i64 ((K + 1 : Nat) : Int)) (hr := (r_add (m := ((K : Nat) : Int)) (n := 1) (z := ((K + 1 : Nat) : Int)) rfl (by kernel_rfl) (by kernel_rfl) (by omega) (by omega))) (h := ?_)
                    refine W.as (v := .int .i64 ((K + 1 : Nat) : Int)) (h := ?_)
                    refine W.endF 99 [(0, .agg #[.int .i64 m, .slice A n c]), (1, .slice A2 n2 c2), (2, .pointer (some ⟨b2, 0, none⟩)), (4, .bool false), (5, .int .i64 ((K + 1 : Nat) : Int)), (6, .pointer (some ⟨b37, 0, none⟩)), (7, .int .i64 (findL ps x27.pipe)), (8, .int .i64 ((j : Nat) : Int)), (16, .bool false), (20, .bool true), (75, .bool false), (78, .bool false)] (fun U211 => ?_)
                    exact h7 _ _ _ (by omega : (n2 - (K + 1)) < _) ⟨K + 1, (fun iU9 => lk [(0, .agg #[.int .i64 m, .slice A n c]), (1, .slice A2 n2 c2), (2, .pointer (some ⟨b2, 0, none⟩)), (4, .bool false), (5, .int .i64 ((K + 1 : Nat) : Int)), (6, .pointer (some ⟨b37, 0, none⟩)), (7, .int .i64 (findL ps x27.pipe)), (8, .int .i64 ((j : Nat) : Int)), (16, .bool false), (20, .bool true), (75, .bool false), (78, .bool false)] iU9 (U211 iU9)), (by kernel_rfl), rfl, (by omega), (okVTo_next hok ((okV_iff hx28).2 ⟨⟨inB_iff.1 q62, (by have e0 : K = 0 := (by omega); subst e0; exact above_zero)⟩, endAt_of (by omega) hx166 (by omega), placed_no hno (by omega)⟩)), x6, c183⟩
              · refine W.q (v := .bool false) (hr := (r_neq (m := x165.fr) (n := x27.node) rfl (by kernel_rfl) (by kernel_rfl) (decide_eq_false q175))) (h := ?_)
                refine W.mv (v := .bool false) (h := ?_)
                refine W.sp s59 (h := ?_)
                refine W.sp s59 (h := ?_)
                refine W.sp s59 (h := ?_)
                refine W.sp s59 (h := ?_)
                refine W.sp s59 (h := ?_)
                refine W.sp s59 (h := ?_)
                refine W.sp s59 (h := ?_)
                refine W.sp s59 (h := ?_)
                refine W.sp s59 (h := ?_)
                refine W.q (v := .bool false) (hr := (r_pick (b := false) rfl (by kernel_rfl) (by kernel_rfl))) (h := ?_)
                refine W.q (v := .bool false) (hr := (r_pick (b := false) rfl (by kernel_rfl) (by kernel_rfl))) (h := ?_)
                refine W.endF 99 [(0, .agg #[.int .i64 m, .slice A n c]), (1, .slice A2 n2 c2), (2, .pointer (some ⟨b2, 0, none⟩)), (4, .bool false), (5, .int .i64 ((K : Nat) : Int)), (6, .pointer (some ⟨b37, 0, none⟩)), (7, .int .i64 (findL ps x27.pipe)), (16, .bool false), (20, .bool true), (75, .bool false)] (fun U212 => ?_)
                have x6 := SG.blk s59 x6 (by simp)
                have x47 := SG.blk s59 x47 (by simp)
                have c213 := (SG.belowR c56 s59 (fun kq e => by cases e))
                refine h14 _ _ ?_
                refine wp_cond_false (by kernel_rfl) ?_
                refine wp_skip ?_
                refine h13 _ _ ?_
                refine wp_seq_k (fun K41 h41 => ?_)
                refine W.region_quiet [(0, false)] (by kernel_rfl) ?_
                refine W.as (v := .int .i64 0) (h := ?_)
                refine W.endF 99 [(0, .agg #[.int .i64 m, .slice A n c]), (1, .slice A2 n2 c2), (2, .pointer (some ⟨b2, 0, none⟩)), (4, .bool false), (5, .int .i64 ((K : Nat) : Int)), (6, .pointer (some ⟨b37, 0, none⟩)), (7, .int .i64 (findL ps x27.pipe)), (8, .int .i64 0), (16, .bool false), (20, .bool true), (75, .bool false)] (fun U214 => ?_)
                refine h41 _ _ ?_
                refine wp_block ?_
                refine loopK (fun am1 aa1 wl1 => ∃ (j : Nat) (U1 : Nat → Value), aa1 = ⟨(fr U1 [(0, .agg #[.int .i64 m, .slice A n c]), (1, .slice A2 n2 c2), (2, .pointer (some ⟨b2, 0, none⟩)), (4, .bool false), (5, .int .i64 ((K : Nat) : Int)), (6, .pointer (some ⟨b37, 0, none⟩)), (7, .int .i64 (findL ps x27.pipe)), (8, .int .i64 ((j : Nat) : Int)), (16, .bool false), (20, .bool true), (75, .bool false)] 99 0).toArray, []⟩ ∧ (am1 = (K) - j) ∧ (j ≤ K) ∧ (∀ i z, i < j → vs[i]? = some z → ¬ (z.pipe = x27.pipe ∧ z.node = x27.node)) ∧ (wl1.heap[b2]? = some (.cells #[.int .i64 m, .slice A n c] 32 (0, 0))) ∧ (wl1.heap[b37]? = some (.cells #[.int .i64 x27.id, .int .i64 x27.pipe, .int .i64 x27.node, .bool x27.shut] 60 (0, 0))) ∧ (Below w.heap.size w wl1)) ((K) - 0) ?_ ?_
                · exact ⟨0, (fun iU9 => lk [(0, .agg #[.int .i64 m, .slice A n c]), (1, .slice A2 n2 c2), (2, .pointer (some ⟨b2, 0, none⟩)), (4, .bool false), (5, .int .i64 ((K : Nat) : Int)), (6, .pointer (some ⟨b37, 0, none⟩)), (7, .int .i64 (findL ps x27.pipe)), (8, .int .i64 0), (16, .bool false), (20, .bool true), (75, .bool false)] iU9 (U214 iU9)), (by kernel_rfl), rfl, (Nat.zero_le _), (fun i z hi => absurd hi (by omega)), x6, x47, c213⟩
                rintro am1 aa1 wl1 K42 h42 ⟨j, U1, rfl, rfl, hj, hno, x6, x47, c215⟩
                refine wp_seq_k (fun K43 h43 => ?_)
                refine wp_seq_k (fun K44 h44 => ?_)
                refine W.region_quiet [(0, false), (1, false), (2, false)] (by kernel_rfl) ?_
                refine W.mv (v := .int .i64 ((j : Nat) : Int)) (h := ?_)
                refine W.mv (v := .int .i64 ((K : Nat) : Int)) (h := ?_)
                by_cases q216 : (((j : Nat) : Int) : Int) < (((K : Nat) : Int) : Int)
                · refine W.q (v := .bool true) (hr := (r_lss (m := ((j : Nat) : Int)) (n := ((K : Nat) : Int)) rfl (by kernel_rfl) (by kernel_rfl) (decide_eq_true q216))) (h := ?_)
                  refine W.endF 99 [(0, .agg #[.int .i64 m, .slice A n c]), (1, .slice A2 n2 c2), (2, .pointer (some ⟨b2, 0, none⟩)), (4, .bool false), (5, .int .i64 ((K : Nat) : Int)), (6, .pointer (some ⟨b37, 0, none⟩)), (7, .int .i64 (findL ps x27.pipe)), (8, .int .i64 ((j : Nat) : Int)), (16, .bool false), (20, .bool true), (75, .bool false), (78, .bool true)] (fun U217 => ?_)
                  refine h44 _ _ ?_
                  refine wp_cond_true (by kernel_rfl) ?_
                  refine wp_skip ?_
                  refine h43 _ _ ?_
                  refine wp_seq_k (fun K45 h45 => ?_)
                  refine wp_block ?_
                  refine wp_seq_k (fun K46 h46 => ?_)
                  refine W.region_sch (row := none) (Sch.of [(0, false), (1, false), (2, false), (3, false), (4, false), (5, false), (6, false), (7, false), (8, false), (9, false), (10, false), (11, false), (12, false), (13, false), (14, false), (15, false), (16, false), (17, false)]) (by kernel_rfl) (by kernel_rfl) (fun _ d _ _ _ h => by cases d <;> exact h) (by kernel_rfl) (fun w218 e219 s220 => ?_)
                  refine W.mv (v := .slice A2 n2 c2) (h := ?_)
                  refine W.mv (v := .int .i64 ((j : Nat) : Int)) (h := ?_)
                  obtain ⟨x221, hx222⟩ := get_of (zs := vs) (k := j) (by have := hl2; omega)
                  obtain ⟨b223, o224, hA225, hb226, hc227, hc228, hc229, hc230⟩ := Rd.elValve hb hx222
                  refine W.q (v := .pointer (some ⟨b223, o224 + j * 4, none⟩)) (hr := (r_idx (n := n2) (c := c2) (k := j) rfl (by kernel_rfl) hA225 (by kernel_rfl) (by kernel_rfl) (by have := hl2; omega))) (h := ?_)
                  refine W.q (v := .pointer (some ⟨b223, o224 + j * 4 + 1, none⟩)) (hr := (r_field (k := 1) rfl (by kernel_rfl) (by kernel_rfl))) (h := ?_)
                  refine W.ld (v := .int .i64 x221.pipe) (hc := (sgS (later c215 hc228) (by simp))) (h := ?_)
                  refine W.q (v := .pointer (some ⟨b37, 1, none⟩)) (hr := (r_field (k := 1) rfl (by kernel_rfl) (by kernel_rfl))) (h := ?_)
                  refine W.ld (v := .int .i64 x27.pipe) (hc := (sgS (blk_cell (j := 1) x47 (by kernel_rfl)) (by simp))) (h := ?_)
                  by_cases q231 : (x221.pipe : Int) = (x27.pipe : Int)
                  · refine W.q (v := .bool true) (hr := (r_eql (m := x221.pipe) (n := x27.pipe) rfl (by kernel_rfl) (by kernel_rfl) (decide_eq_true q231))) (h := ?_)
                    refine W.mv (v := .bool true) (h := ?_)
                    refine W.mv (v := .slice A2 n2 c2) (h := ?_)
                    refine W.mv (v := .int .i64 ((j : Nat) : Int)) (h := ?_)
                    refine W.q (v := .pointer (some ⟨b223, o224 + j * 4, none⟩)) (hr := (r_idx (n := n2) (c := c2) (k := j) rfl (by kernel_rfl) hA225 (by kernel_rfl) (by kernel_rfl) (by have := hl2; omega))) (h := ?_)
                    refine W.q (v := .pointer (some ⟨b223, o224 + j * 4 + 2, none⟩)) (hr := (r_field (k := 2) rfl (by kernel_rfl) (by kernel_rfl))) (h := ?_)
                    refine W.ld (v := .int .i64 x221.node) (hc := (sgS (later c215 hc229) (by simp))) (h := ?_)
                    refine W.q (v := .pointer (some ⟨b37, 2, none⟩)) (hr := (r_field (k := 2) rfl (by kernel_rfl) (by kernel_rfl))) (h := ?_)
                    refine W.ld (v := .int .i64 x27.node) (hc := (sgS (blk_cell (j := 2) x47 (by kernel_rfl)) (by simp))) (h := ?_)
                    by_cases q232 : (x221.node : Int) = (x27.node : Int)
                    · refine W.q (v := .bool true) (hr := (r_eql (m := x221.node) (n := x27.node) rfl (by kernel_rfl) (by kernel_rfl) (decide_eq_true q232))) (h := ?_)
                      refine W.q (v := .bool true) (hr := (r_pick (b := true) rfl (by kernel_rfl) (by kernel_rfl))) (h := ?_)
                      refine W.endF 99 [(0, .agg #[.int .i64 m, .slice A n c]), (1, .slice A2 n2 c2), (2, .pointer (some ⟨b2, 0, none⟩)), (4, .bool false), (5, .int .i64 ((K : Nat) : Int)), (6, .pointer (some ⟨b37, 0, none⟩)), (7, .int .i64 (findL ps x27.pipe)), (8, .int .i64 ((j : Nat) : Int)), (16, .bool false), (20, .bool true), (75, .bool false), (78, .bool true), (98, .bool true)] (fun U233 => ?_)
                      have x6 := SG.blk s220 x6 (by simp)
                      have x47 := SG.blk s220 x47 (by simp)
                      have c234 := (SG.belowR c215 s220 (fun kq e => by cases e))
                      refine h46 _ _ ?_
                      refine wp_cond_true (by kernel_rfl) ?_
                      refine wp_seq_k (fun K47 h47 => ?_)
                      refine W.region_quiet [(0, false)] (by kernel_rfl) ?_
                      refine W.as (v := .bool false) (h := ?_)
                      refine W.endF 99 [(0, .agg #[.int .i64 m, .slice A n c]), (1, .slice A2 n2 c2), (2, .pointer (some ⟨b2, 0, none⟩)), (4, .bool false), (5, .int .i64 ((K : Nat) : Int)), (6, .pointer (some ⟨b37, 0, none⟩)), (7, .int .i64 (findL ps x27.pipe)), (8, .int .i64 ((j : Nat) : Int)), (16, .bool false), (20, .bool true), (75, .bool false), (78, .bool true), (98, .bool true)] (fun U235 => ?_)
                      refine h47 _ _ ?_
                      refine wp_ret ?_
                      try simp only [Exit.then, Exit.inBlock]
                      refine ret1 (v := .bool false) rfl (by kernel_rfl) ?_
                      have e8 : okV ps vs (K) = false := Bool.eq_false_iff.2 (fun h9 => by
                        have h8 := (okV_iff hx28).1 h9
                        obtain ⟨⟨hA, hB⟩, hC, hD⟩ := h8
                        obtain ⟨hC0, p9, hp9, hC1⟩ := endAt_pos hC
                        obtain rfl := Option.some.inj (hp9.symm.trans hx166)
                        exact absurd (placed_yes (k := K) (a := x27.pipe) (b := x27.node) hx222 (by omega) q231 q232) (by rw [hD]; simp))
                      exact ⟨ret_bool (goodV_bad (k := K) (by omega) e8).symm, c234⟩
                    · refine W.q (v := .bool false) (hr := (r_eql (m := x221.node) (n := x27.node) rfl (by kernel_rfl) (by kernel_rfl) (decide_eq_false q232))) (h := ?_)
                      refine W.q (v := .bool false) (hr := (r_pick (b := true) rfl (by kernel_rfl) (by kernel_rfl))) (h := ?_)
                      refine W.endF 99 [(0, .agg #[.int .i64 m, .slice A n c]), (1, .slice A2 n2 c2), (2, .pointer (some ⟨b2, 0, none⟩)), (4, .bool false), (5, .int .i64 ((K : Nat) : Int)), (6, .pointer (some ⟨b37, 0, none⟩)), (7, .int .i64 (findL ps x27.pipe)), (8, .int .i64 ((j : Nat) : Int)), (16, .bool false), (20, .bool true), (75, .bool false), (78, .bool true), (98, .bool false)] (fun U236 => ?_)
                      have x6 := SG.blk s220 x6 (by simp)
                      have x47 := SG.blk s220 x47 (by simp)
                      have c237 := (SG.belowR c215 s220 (fun kq e => by cases e))
                      refine h46 _ _ ?_
                      refine wp_cond_false (by kernel_rfl) ?_
                      refine wp_skip ?_
                      refine h45 _ _ ?_
                      refine W.region_quiet [(0, false), (1, false), (2, false)] (by kernel_rfl) ?_
                      refine W.mv (v := .int .i64 ((j : Nat) : Int)) (h := ?_)
                      refine W.q (v := .int .i64 ((j + 1 : Nat) : Int)) (hr := (r_add (m := ((j : Nat) : Int)) (n := 1) (z := ((j + 1 : Nat) : Int)) rfl (by kernel_rfl) (by kernel_rfl) (by omega) (by omega))) (h := ?_)
                      refine W.as (v := .int .i64 ((j + 1 : Nat) : Int)) (h := ?_)
                      refine W.endF 99 [(0, .agg #[.int .i64 m, .slice A n c]), (1, .slice A2 n2 c2), (2, .pointer (some ⟨b2, 0, none⟩)), (4, .bool false), (5, .int .i64 ((K : Nat) : Int)), (6, .pointer (some ⟨b37, 0, none⟩)), (7, .int .i64 (findL ps x27.pipe)), (8, .int .i64 ((j + 1 : Nat) : Int)), (16, .bool false), (20, .bool true), (75, .bool false), (78, .bool true), (98, .bool false)] (fun U238 => ?_)
                      exact h42 _ _ _ (by omega : ((K) - (j + 1)) < _) ⟨j + 1, (fun iU9 => lk [(0, .agg #[.int .i64 m, .slice A n c]), (1, .slice A2 n2 c2), (2, .pointer (some ⟨b2, 0, none⟩)), (4, .bool false), (5, .int .i64 ((K : Nat) : Int)), (6, .pointer (some ⟨b37, 0, none⟩)), (7, .int .i64 (findL ps x27.pipe)), (8, .int .i64 ((j + 1 : Nat) : Int)), (16, .bool false), (20, .bool true), (75, .bool false), (78, .bool true), (98, .bool false)] iU9 (U238 iU9)), (by kernel_rfl), rfl, (by omega), (upto_succ (Q := fun z => ¬ (z.pipe = x27.pipe ∧ z.node = x27.node)) hno hx222 (by omega)), x6, x47, c237⟩
                  · refine W.q (v := .bool false) (hr := (r_eql (m := x221.pipe) (n := x27.pipe) rfl (by kernel_rfl) (by kernel_rfl) (decide_eq_false q231))) (h := ?_)
                    refine W.mv (v := .bool false) (h := ?_)
                    refine W.sp s220 (h := ?_)
                    refine W.sp s220 (h := ?_)
                    refine W.sp s220 (h := ?_)
                    refine W.sp s220 (h := ?_)
                    refine W.sp s220 (h := ?_)
                    refine W.sp s220 (h := ?_)
                    refine W.sp s220 (h := ?_)
                    refine W.sp s220 (h := ?_)
                    refine W.q (v := .bool false) (hr := (r_pick (b := false) rfl (by kernel_rfl) (by kernel_rfl))) (h := ?_)
                    refine W.endF 99 [(0, .agg #[.int .i64 m, .slice A n c]), (1, .slice A2 n2 c2), (2, .pointer (some ⟨b2, 0, none⟩)), (4, .bool false), (5, .int .i64 ((K : Nat) : Int)), (6, .pointer (some ⟨b37, 0, none⟩)), (7, .int .i64 (findL ps x27.pipe)), (8, .int .i64 ((j : Nat) : Int)), (16, .bool false), (20, .bool true), (75, .bool false), (78, .bool true), (98, .bool false)] (fun U239 => ?_)
                    have x6 := SG.blk s220 x6 (by simp)
                    have x47 := SG.blk s220 x47 (by simp)
                    have c240 := (SG.belowR c215 s220 (fun kq e => by cases e))
                    refine h46 _ _ ?_
                    refine wp_cond_false (by kernel_rfl) ?_
                    refine wp_skip ?_
                    refine h45 _ _ ?_
                    refine W.region_quiet [(0, false), (1, false), (2, false)] (by kernel_rfl) ?_
                    refine W.mv (v := .int .i64 ((j : Nat) : Int)) (h := ?_)
                    refine W.q (v := .int .i64 ((j + 1 : Nat) : Int)) (hr := (r_add (m := ((j : Nat) : Int)) (n := 1) (z := ((j + 1 : Nat) : Int)) rfl (by kernel_rfl) (by kernel_rfl) (by omega) (by omega))) (h := ?_)
                    refine W.as (v := .int .i64 ((j + 1 : Nat) : Int)) (h := ?_)
                    refine W.endF 99 [(0, .agg #[.int .i64 m, .slice A n c]), (1, .slice A2 n2 c2), (2, .pointer (some ⟨b2, 0, none⟩)), (4, .bool false), (5, .int .i64 ((K : Nat) : Int)), (6, .pointer (some ⟨b37, 0, none⟩)), (7, .int .i64 (findL ps x27.pipe)), (8, .int .i64 ((j + 1 : Nat) : Int)), (16, .bool false), (20, .bool true), (75, .bool false), (78, .bool true), (98, .bool false)] (fun U241 => ?_)
                    exact h42 _ _ _ (by omega : ((K) - (j + 1)) < _) ⟨j + 1, (fun iU9 => lk [(0, .agg #[.int .i64 m, .slice A n c]), (1, .slice A2 n2 c2), (2, .pointer (some ⟨b2, 0, none⟩)), (4, .bool false), (5, .int .i64 ((K : Nat) : Int)), (6, .pointer (some ⟨b37, 0, none⟩)), (7, .int .i64 (findL ps x27.pipe)), (8, .int .i64 ((j + 1 : Nat) : Int)), (16, .bool false), (20, .bool true), (75, .bool false), (78, .bool true), (98, .bool false)] iU9 (U241 iU9)), (by kernel_rfl), rfl, (by omega), (upto_succ (Q := fun z => ¬ (z.pipe = x27.pipe ∧ z.node = x27.node)) hno hx222 (by omega)), x6, x47, c240⟩
                · refine W.q (v := .bool false) (hr := (r_lss (m := ((j : Nat) : Int)) (n := ((K : Nat) : Int)) rfl (by kernel_rfl) (by kernel_rfl) (decide_eq_false q216))) (h := ?_)
                  refine W.endF 99 [(0, .agg #[.int .i64 m, .slice A n c]), (1, .slice A2 n2 c2), (2, .pointer (some ⟨b2, 0, none⟩)), (4, .bool false), (5, .int .i64 ((K : Nat) : Int)), (6, .pointer (some ⟨b37, 0, none⟩)), (7, .int .i64 (findL ps x27.pipe)), (8, .int .i64 ((j : Nat) : Int)), (16, .bool false), (20, .bool true), (75, .bool false), (78, .bool false)] (fun U242 => ?_)
                  refine h44 _ _ ?_
                  refine wp_cond_false (by kernel_rfl) ?_
                  refine wp_exit ?_
                  refine h10 _ _ ?_
                  refine W.region_quiet [(0, false), (1, false), (2, false)] (by kernel_rfl) ?_
                  refine W.mv (v := .int .i64 ((K : Nat) : Int)) (h := ?_)
                  refine W.q (v := .int .i64 ((K + 1 : Nat) : Int)) (hr := (r_add (m := ((K : Nat) : Int)) (n := 1) (z := ((K + 1 : Nat) : Int)) rfl (by kernel_rfl) (by kernel_rfl) (by omega) (by omega))) (h := ?_)
                  refine W.as (v := .int .i64 ((K + 1 : Nat) : Int)) (h := ?_)
                  refine W.endF 99 [(0, .agg #[.int .i64 m, .slice A n c]), (1, .slice A2 n2 c2), (2, .pointer (some ⟨b2, 0, none⟩)), (4, .bool false), (5, .int .i64 ((K + 1 : Nat) : Int)), (6, .pointer (some ⟨b37, 0, none⟩)), (7, .int .i64 (findL ps x27.pipe)), (8, .int .i64 ((j : Nat) : Int)), (16, .bool false), (20, .bool true), (75, .bool false), (78, .bool false)] (fun U243 => ?_)
                  exact h7 _ _ _ (by omega : (n2 - (K + 1)) < _) ⟨K + 1, (fun iU9 => lk [(0, .agg #[.int .i64 m, .slice A n c]), (1, .slice A2 n2 c2), (2, .pointer (some ⟨b2, 0, none⟩)), (4, .bool false), (5, .int .i64 ((K + 1 : Nat) : Int)), (6, .pointer (some ⟨b37, 0, none⟩)), (7, .int .i64 (findL ps x27.pipe)), (8, .int .i64 ((j : Nat) : Int)), (16, .bool false), (20, .bool true), (75, .bool false), (78, .bool false)] iU9 (U243 iU9)), (by kernel_rfl), rfl, (by omega), (okVTo_next hok ((okV_iff hx28).2 ⟨⟨inB_iff.1 q62, (by have e0 : K = 0 := (by omega); subst e0; exact above_zero)⟩, endAt_of (by omega) hx166 (by omega), placed_no hno (by omega)⟩)), x6, c215⟩
        · rw [q62]
          refine W.q (v := .bool true) (hr := (r_not (b := false) rfl (by kernel_rfl) rfl)) (h := ?_)
          refine W.mv (v := .bool true) (h := ?_)
          refine W.sp s59 (h := ?_)
          refine W.sp s59 (h := ?_)
          refine W.sp s59 (h := ?_)
          refine W.sp s59 (h := ?_)
          refine W.sp s59 (h := ?_)
          refine W.sp s59 (h := ?_)
          refine W.sp s59 (h := ?_)
          refine W.sp s59 (h := ?_)
          refine W.sp s59 (h := ?_)
          refine W.sp s59 (h := ?_)
          refine W.sp s59 (h := ?_)
          refine W.sp s59 (h := ?_)
          refine W.sp s59 (h := ?_)
          refine W.q (v := .bool true) (hr := (r_pick (b := true) rfl (by kernel_rfl) (by kernel_rfl))) (h := ?_)
          refine W.mv (v := .bool true) (h := ?_)
          refine W.sp s59 (h := ?_)
          refine W.sp s59 (h := ?_)
          refine W.q (v := .bool true) (hr := (r_pick (b := true) rfl (by kernel_rfl) (by kernel_rfl))) (h := ?_)
          refine W.mv (v := .bool true) (h := ?_)
          refine W.sp s59 (h := ?_)
          refine W.sp s59 (h := ?_)
          refine W.sp s59 (h := ?_)
          refine W.sp s59 (h := ?_)
          refine W.sp s59 (h := ?_)
          refine W.sp s59 (h := ?_)
          refine W.sp s59 (h := ?_)
          refine W.sp s59 (h := ?_)
          refine W.sp s59 (h := ?_)
          refine W.sp s59 (h := ?_)
          refine W.sp s59 (h := ?_)
          refine W.sp s59 (h := ?_)
          refine W.sp s59 (h := ?_)
          refine W.sp s59 (h := ?_)
          refine W.sp s59 (h := ?_)
          refine W.sp s59 (h := ?_)
          refine W.sp s59 (h := ?_)
          refine W.sp s59 (h := ?_)
          refine W.sp s59 (h := ?_)
          refine W.sp s59 (h := ?_)
          refine W.q (v := .bool true) (hr := (r_pick (b := true) rfl (by kernel_rfl) (by kernel_rfl))) (h := ?_)
          refine W.endF 99 [(0, .agg #[.int .i64 m, .slice A n c]), (1, .slice A2 n2 c2), (2, .pointer (some ⟨b2, 0, none⟩)), (4, .bool false), (5, .int .i64 ((K : Nat) : Int)), (6, .pointer (some ⟨b37, 0, none⟩)), (7, .int .i64 (findL ps x27.pipe)), (16, .bool false), (20, .bool true), (75, .bool true)] (fun U244 => ?_)
          have x6 := SG.blk s59 x6 (by simp)
          have x47 := SG.blk s59 x47 (by simp)
          have c245 := (SG.belowR c56 s59 (fun kq e => by cases e))
          refine h14 _ _ ?_
          refine wp_cond_true (by kernel_rfl) ?_
          refine wp_seq_k (fun K48 h48 => ?_)
          refine W.region_quiet [(0, false)] (by kernel_rfl) ?_
          refine W.as (v := .bool false) (h := ?_)
          refine W.endF 99 [(0, .agg #[.int .i64 m, .slice A n c]), (1, .slice A2 n2 c2), (2, .pointer (some ⟨b2, 0, none⟩)), (4, .bool false), (5, .int .i64 ((K : Nat) : Int)), (6, .pointer (some ⟨b37, 0, none⟩)), (7, .int .i64 (findL ps x27.pipe)), (16, .bool false), (20, .bool true), (75, .bool true)] (fun U246 => ?_)
          refine h48 _ _ ?_
          refine wp_ret ?_
          try simp only [Exit.then, Exit.inBlock]
          refine ret1 (v := .bool false) rfl (by kernel_rfl) ?_
          have e8 : okV ps vs (K) = false := Bool.eq_false_iff.2 (fun h9 => by
            have h8 := (okV_iff hx28).1 h9
            obtain ⟨⟨hA, hB⟩, hC, hD⟩ := h8
            obtain ⟨hC0, p9, hp9, hC1⟩ := endAt_pos hC
            first | omega | (rw [inB_iff.2 hA] at q62; cases q62))
          exact ⟨ret_bool (goodV_bad (k := K) (by omega) e8).symm, c245⟩
      · refine W.q (v := .bool false) (hr := (r_lss (m := ((K : Nat) : Int)) (n := ((n2 : Nat) : Int)) rfl (by kernel_rfl) (by kernel_rfl) (decide_eq_false q24))) (h := ?_)
        refine W.endF 99 [(0, .agg #[.int .i64 m, .slice A n c]), (1, .slice A2 n2 c2), (2, .pointer (some ⟨b2, 0, none⟩)), (4, .bool false), (5, .int .i64 ((K : Nat) : Int)), (16, .bool false), (20, .bool false)] (fun U247 => ?_)
        refine h9 _ _ ?_
        refine wp_cond_false (by kernel_rfl) ?_
        refine wp_exit ?_
        refine h5 _ _ ?_
        refine wp_seq_k (fun K49 h49 => ?_)
        refine W.region_quiet [(0, false)] (by kernel_rfl) ?_
        refine W.as (v := .bool true) (h := ?_)
        refine W.endF 99 [(0, .agg #[.int .i64 m, .slice A n c]), (1, .slice A2 n2 c2), (2, .pointer (some ⟨b2, 0, none⟩)), (4, .bool true), (5, .int .i64 ((K : Nat) : Int)), (16, .bool false), (20, .bool false)] (fun U248 => ?_)
        refine h49 _ _ ?_
        refine wp_ret ?_
        try simp only [Exit.then]
        refine ret1 (v := .bool true) rfl (by kernel_rfl) ?_
        exact ⟨ret_bool (goodV_fin q15 (by omega) (by rw [show vs.length = K by omega]; exact hok)).symm, c23⟩
  · rw [q15]
    refine W.q (v := .bool true) (hr := (r_not (b := false) rfl (by kernel_rfl) rfl)) (h := ?_)
    refine W.mv (v := .bool true) (h := ?_)
    refine W.sp s14 (h := ?_)
    refine W.sp s14 (h := ?_)
    refine W.sp s14 (h := ?_)
    refine W.q (v := .bool true) (hr := (r_pick (b := true) rfl (by kernel_rfl) (by kernel_rfl))) (h := ?_)
    refine W.endF 99 [(0, .agg #[.int .i64 m, .slice A n c]), (1, .slice A2 n2 c2), (2, .pointer (some ⟨b2, 0, none⟩)), (4, .bool false), (16, .bool true)] (fun U249 => ?_)
    have x6 := SG.blk s14 x6 (by simp)
    have c250 := (SG.belowR c10 s14 (fun kq e => by cases e))
    refine h3 _ _ ?_
    refine wp_cond_true (by kernel_rfl) ?_
    refine wp_seq_k (fun K50 h50 => ?_)
    refine W.region_quiet [(0, false)] (by kernel_rfl) ?_
    refine W.as (v := .bool false) (h := ?_)
    refine W.endF 99 [(0, .agg #[.int .i64 m, .slice A n c]), (1, .slice A2 n2 c2), (2, .pointer (some ⟨b2, 0, none⟩)), (4, .bool false), (16, .bool true)] (fun U251 => ?_)
    refine h50 _ _ ?_
    refine wp_ret ?_
    try simp only [Exit.then]
    refine ret1 (v := .bool false) rfl (by kernel_rfl) ?_
    exact ⟨ret_bool (goodV_out (.inl q15)).symm, c250⟩

end Go.Proofs.Ytnfmdkbelbppdaa
