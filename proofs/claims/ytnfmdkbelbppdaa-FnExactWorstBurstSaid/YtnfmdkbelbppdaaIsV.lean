/- Valid valves: the program's test. -/
import Derived.Test.YtnfmdkbelbppdaaValL
namespace Go.Proofs.Ytnfmdkbelbppdaa
open Go.RowKit
set_option linter.unusedVariables false
set_option linter.unusedSimpArgs false

theorem flatV_take {vs : List Vv} : ∀ k, (valvesV vs).take (k * 4) = valvesV (vs.take k) := by
  intro k
  induction vs generalizing k with
  | nil => simp [valvesV]
  | cons p ps ih =>
    cases k with
    | zero => simp [valvesV]
    | succ k => simp only [valvesV, List.flatMap_cons, List.take_succ_cons] at ih ⊢; rw [show (k + 1) * 4 = k * 4 + 4 by omega]; simp [Vv.vals, ih]
theorem Rd.toV {w : World} {A : Option Addr} {n k : Nat} {vs : List Vv} (h : Rd w 4 A n (valvesV vs)) (hk : k ≤ n) : Rd w 4 A k (valvesV (vs.take k)) := by
  have := h.to hk; rwa [flatV_take] at this
theorem other_zero {p : Pp} {u : Int} (h1 : 1 ≤ p.fr) (h2 : 1 ≤ p.to) : otherOf p u = 0 ↔ ¬ (p.fr = u ∨ p.to = u) := by
  rw [← other_pos h1 h2]
  unfold otherOf
  split
  · omega
  · split <;> omega

set_option maxRecDepth 100000 in
set_option maxHeartbeats 1000000 in
theorem IsValidValves_any (m : Int) (A : Option Addr) (n c : Nat) (ps : List Pp) (A2 : Option Addr) (n2 c2 : Nat) (vs : List Vv) (w : World) (ha : Rd w 4 A n (pipesV ps)) (hb : Rd w 4 A2 n2 (valvesV vs)) (hn : n ≤ 1048576) (hn2 : n2 ≤ 1048576) (hfm2 : Fm A2 n2 c2) :
    Calls Try.prog 79 #[.agg #[.int .i64 m, .slice A n c], .slice A2 n2 c2] w fun e w' => e = .returned (.bool (goodV m ps vs)) ∧ Below w.heap.size w w' := by
  have hl := rd_pipes_len ha
  have hl2 := rd_valves_len hb
  go_enter Try.func79, Try.ntmps79
  refine wp_seq_k (fun K1 h1 => ?_)
  refine W.region_plain (row := none) [(0, true), (1, false)] (by kernel_rfl) ?_
  have s1 := SG.self w none
  refine W.sn (fun b => .pointer (some ⟨b, 0, none⟩)) #[.int .i64 m, .slice A n c] 32 s1 rfl (by kernel_rfl) rfl (fun _ => by kernel_rfl) (fun b2 w3 hb4 k5 x6 s7 => ?_)
  have lo8 : w.heap.size ≤ b2 := by have := ((SG.belowR (Below.refl _ _) s1 (fun kq e => by cases e))).size; omega
  refine W.as (v := .bool false) (h := ?_)
  refine W.endF 72 [(0, .agg #[.int .i64 m, .slice A n c]), (1, .slice A2 n2 c2), (2, .pointer (some ⟨b2, 0, none⟩)), (4, .bool false)] (fun U9 => ?_)
  have c10 := (SG.belowR (Below.refl _ _) s7 (fun kq e => by cases e))
  refine h1 _ _ ?_
  refine wp_seq_k (fun K2 h2 => ?_)
  refine wp_seq_k (fun K3 h3 => ?_)
  refine W.region_plain (row := none) [(0, false), (1, true), (2, false), (3, false), (4, false), (5, false), (6, false), (7, false)] (by kernel_rfl) ?_
  have s11 := SG.self w3 none
  refine W.q (v := .agg #[.int .i64 m, .slice A n c]) (hr := (r_load2 rfl (by kernel_rfl) (by kernel_rfl) (by kernel_rfl) (sgS (blk_cell (j := 0) x6 (by kernel_rfl)) (by simp)) (sgS (blk_cell (j := 1) x6 (by kernel_rfl)) (by simp)))) (h := ?_)
  refine W.sc (vs := [.agg #[.int .i64 m, .slice A n c]]) rfl rfl (by kernel_rfl) (by kernel_rfl) (by kernel_rfl) rfl (IsValid_any m A n c ps _ (Rd.kept ha (SG.belowR c10 s11 (fun kq e => by cases e))) (by omega)) ?_
  rintro e w13 ⟨rfl, b12⟩
  have s14 := SG.of_below s11 b12
  refine ⟨_, rfl, s14, ?_⟩
  rcases Bool.eq_false_or_eq_true (goodN m ps) with q15 | q15
  · rw [q15]
    refine W.q (v := .bool false) (hr := (r_not (b := true) rfl (by kernel_rfl) rfl)) (h := ?_)
    refine W.mv (v := .bool false) (h := ?_)
    refine W.mv (v := .slice A2 n2 c2) (h := ?_)
    refine W.q (v := .int .i64 ((n2 : Nat) : Int)) (hr := (r_len (A := A2) (n := n2) (c := c2) rfl (by kernel_rfl) (by kernel_rfl))) (h := ?_)
    by_cases q16 : (((n2 : Nat) : Int) : Int) > (10 : Int)
    · refine W.q (v := .bool true) (hr := (r_gtr (m := ((n2 : Nat) : Int)) (n := 10) rfl (by kernel_rfl) (by kernel_rfl) (decide_eq_true q16))) (h := ?_)
      refine W.q (v := .bool true) (hr := (r_pick (b := false) rfl (by kernel_rfl) (by kernel_rfl))) (h := ?_)
      refine W.endF 72 [(0, .agg #[.int .i64 m, .slice A n c]), (1, .slice A2 n2 c2), (2, .pointer (some ⟨b2, 0, none⟩)), (4, .bool false), (15, .bool true)] (fun U17 => ?_)
      have x6 := SG.blk s14 x6 (by simp)
      have c18 := (SG.belowR c10 s14 (fun kq e => by cases e))
      refine h3 _ _ ?_
      refine wp_cond_true (by kernel_rfl) ?_
      refine wp_seq_k (fun K4 h4 => ?_)
      refine W.region_quiet [(0, false)] (by kernel_rfl) ?_
      refine W.as (v := .bool false) (h := ?_)
      refine W.endF 72 [(0, .agg #[.int .i64 m, .slice A n c]), (1, .slice A2 n2 c2), (2, .pointer (some ⟨b2, 0, none⟩)), (4, .bool false), (15, .bool true)] (fun U19 => ?_)
      refine h4 _ _ ?_
      refine wp_ret ?_
      try simp only [Exit.then]
      refine ret1 (v := .bool false) rfl (by kernel_rfl) ?_
      exact ⟨ret_bool (goodV_out (.inr (by omega))).symm, c18⟩
    · refine W.q (v := .bool false) (hr := (r_gtr (m := ((n2 : Nat) : Int)) (n := 10) rfl (by kernel_rfl) (by kernel_rfl) (decide_eq_false q16))) (h := ?_)
      refine W.q (v := .bool false) (hr := (r_pick (b := false) rfl (by kernel_rfl) (by kernel_rfl))) (h := ?_)
      refine W.endF 72 [(0, .agg #[.int .i64 m, .slice A n c]), (1, .slice A2 n2 c2), (2, .pointer (some ⟨b2, 0, none⟩)), (4, .bool false), (15, .bool false)] (fun U20 => ?_)
      have x6 := SG.blk s14 x6 (by simp)
      have c21 := (SG.belowR c10 s14 (fun kq e => by cases e))
      refine h3 _ _ ?_
      refine wp_cond_false (by kernel_rfl) ?_
      refine wp_skip ?_
      refine h2 _ _ ?_
      refine wp_seq_k (fun K5 h5 => ?_)
      refine wp_seq_k (fun K6 h6 => ?_)
      refine W.region_quiet [(0, false), (1, false), (2, false)] (by kernel_rfl) ?_
      refine W.mv (v := .slice A2 n2 c2) (h := ?_)
      refine W.q (v := .int .i64 ((n2 : Nat) : Int)) (hr := (r_len (A := A2) (n := n2) (c := c2) rfl (by kernel_rfl) (by kernel_rfl))) (h := ?_)
      refine W.mv (v := .int .i64 0) (h := ?_)
      refine W.endF 72 [(0, .agg #[.int .i64 m, .slice A n c]), (1, .slice A2 n2 c2), (2, .pointer (some ⟨b2, 0, none⟩)), (4, .bool false), (15, .bool false), (16, .slice A2 n2 c2), (17, .int .i64 ((n2 : Nat) : Int)), (18, .int .i64 0)] (fun U22 => ?_)
      refine h6 _ _ ?_
      refine wp_block ?_
      refine loopK (fun am0 aa0 wl0 => ∃ (K : Nat) (U0 : Nat → Value), aa0 = ⟨(fr U0 [(0, .agg #[.int .i64 m, .slice A n c]), (1, .slice A2 n2 c2), (2, .pointer (some ⟨b2, 0, none⟩)), (4, .bool false), (15, .bool false), (16, .slice A2 n2 c2), (17, .int .i64 ((n2 : Nat) : Int)), (18, .int .i64 ((K : Nat) : Int))] 72 0).toArray, []⟩ ∧ (am0 = n2 - K) ∧ (K ≤ n2) ∧ (okVTo ps vs K = true) ∧ (wl0.heap[b2]? = some (.cells #[.int .i64 m, .slice A n c] 32 (0, 0))) ∧ (Below w.heap.size w wl0)) (n2 - 0) ?_ ?_
      · exact ⟨0, (fun iU9 => lk [(0, .agg #[.int .i64 m, .slice A n c]), (1, .slice A2 n2 c2), (2, .pointer (some ⟨b2, 0, none⟩)), (4, .bool false), (15, .bool false), (16, .slice A2 n2 c2), (17, .int .i64 ((n2 : Nat) : Int)), (18, .int .i64 0)] iU9 (U22 iU9)), (by kernel_rfl), rfl, (Nat.zero_le _), rfl, x6, c21⟩
      rintro am0 aa0 wl0 K7 h7 ⟨K, U0, rfl, rfl, hk, hok, x6, c23⟩
      refine wp_seq_k (fun K8 h8 => ?_)
      refine W.region_quiet [(0, false)] (by kernel_rfl) ?_
      by_cases q24 : (((K : Nat) : Int) : Int) < (((n2 : Nat) : Int) : Int)
      · refine W.q (v := .bool true) (hr := (r_lss (m := ((K : Nat) : Int)) (n := ((n2 : Nat) : Int)) rfl (by kernel_rfl) (by kernel_rfl) (decide_eq_true q24))) (h := ?_)
        refine W.endF 72 [(0, .agg #[.int .i64 m, .slice A n c]), (1, .slice A2 n2 c2), (2, .pointer (some ⟨b2, 0, none⟩)), (4, .bool false), (15, .bool false), (16, .slice A2 n2 c2), (17, .int .i64 ((n2 : Nat) : Int)), (18, .int .i64 ((K : Nat) : Int)), (19, .bool true)] (fun U25 => ?_)
        refine h8 _ _ ?_
        refine wp_seq_k (fun K9 h9 => ?_)
        refine wp_cond_true (by kernel_rfl) ?_
        refine wp_skip ?_
        refine h9 _ _ ?_
        refine wp_seq_k (fun K10 h10 => ?_)
        refine wp_block ?_
        refine wp_seq_k (fun K11 h11 => ?_)
        refine W.region_plain (row := none) [(0, false), (1, false), (2, false), (3, true), (4, false), (5, true)] (by kernel_rfl) ?_
        have s26 := SG.self wl0 none
        refine W.mv (v := .int .i64 ((K : Nat) : Int)) (h := ?_)
        obtain ⟨x27, hx28⟩ := get_of (zs := vs) (k := K) (by have := hl2; omega)
        obtain ⟨b29, o30, hA31, hb32, hc33, hc34, hc35, hc36⟩ := Rd.elValve hb hx28
        refine W.q (v := .pointer (some ⟨b29, o30 + K * 4, none⟩)) (hr := (r_idx (n := n2) (c := c2) (k := K) rfl (by kernel_rfl) hA31 (by kernel_rfl) (by kernel_rfl) (by have := hl2; omega))) (h := ?_)
        refine W.q (v := .agg #[.int .i64 x27.id, .int .i64 x27.pipe, .int .i64 x27.node, .bool x27.shut]) (hr := (r_load4 rfl (by kernel_rfl) (by kernel_rfl) (by kernel_rfl) (sgS (later c23 hc33) (by simp)) (sgS (later c23 hc34) (by simp)) (sgS (later c23 hc35) (by simp)) (sgS (later c23 hc36) (by simp)))) (h := ?_)
        refine W.sn (fun b => .pointer (some ⟨b, 0, none⟩)) #[.int .i64 0, .int .i64 0, .int .i64 0, .bool false] 60 s26 rfl (by kernel_rfl) rfl (fun _ => by kernel_rfl) (fun b37 w38 hb39 k40 x41 s42 => ?_)
        have lo43 : w.heap.size ≤ b37 := by have := ((SG.belowR c23 s26 (fun kq e => by cases e))).size; omega
        have ne44 : b2 ≠ b37 := by have := blk_lt x6; have := World.grownBy.size s26; omega
        refine W.as (v := .int .i64 ((K : Nat) : Int)) (h := ?_)
        refine W.ss (v := .agg #[.int .i64 x27.id, .int .i64 x27.pipe, .int .i64 x27.node, .bool x27.shut]) (j := 0) (news := [.int .i64 x27.id, .int .i64 x27.pipe, .int .i64 x27.node, .bool x27.shut]) (cs' := #[.int .i64 x27.id, .int .i64 x27.pipe, .int .i64 x27.node, .bool x27.shut]) s42 rfl (by kernel_rfl) rfl rfl (by kernel_rfl) (by kernel_rfl) x41 (by kernel_rfl) (by kernel_rfl) (by simp) (by kernel_rfl) (by kernel_rfl) (.inr (by have := World.grownBy.size s26; have := hb39; omega)) (fun w45 g46 x47 s48 => ?_)
        refine W.endF 72 [(0, .agg #[.int .i64 m, .slice A n c]), (1, .slice A2 n2 c2), (2, .pointer (some ⟨b2, 0, none⟩)), (4, .bool false), (5, .int .i64 ((K : Nat) : Int)), (6, .pointer (some ⟨b37, 0, none⟩)), (15, .bool false), (16, .slice A2 n2 c2), (17, .int .i64 ((n2 : Nat) : Int)), (18, .int .i64 ((K : Nat) : Int)), (19, .bool true)] (fun U49 => ?_)
        have x6 := SG.blk s48 x6 (by simp)
        have c50 := (SG.belowR c23 s48 (fun kq e => by cases e))
        refine h11 _ _ ?_
        refine wp_seq_k (fun K12 h12 => ?_)
        refine W.region_plain (row := none) [(0, false), (1, false), (2, false), (3, true), (4, false)] (by kernel_rfl) ?_
        have s51 := SG.self w45 none
        refine W.q (v := .agg #[.int .i64 m, .slice A n c]) (hr := (r_load2 rfl (by kernel_rfl) (by kernel_rfl) (by kernel_rfl) (sgS (blk_cell (j := 0) x6 (by kernel_rfl)) (by simp)) (sgS (blk_cell (j := 1) x6 (by kernel_rfl)) (by simp)))) (h := ?_)
        refine W.q (v := .pointer (some ⟨b37, 1, none⟩)) (hr := (r_field (k := 1) rfl (by kernel_rfl) (by kernel_rfl))) (h := ?_)
        refine W.ld (v := .int .i64 x27.pipe) (hc := (sgS (blk_cell (j := 1) x47 (by kernel_rfl)) (by simp))) (h := ?_)
        refine W.sc (vs := [.agg #[.int .i64 m, .slice A n c], .int .i64 x27.pipe]) rfl rfl (by kernel_rfl) (by kernel_rfl) (by kernel_rfl) rfl (pipeIndex_any m A n c ps x27.pipe _ (Rd.kept ha (SG.belowR c50 s51 (fun kq e => by cases e))) (by omega)) ?_
        rintro e w53 ⟨rfl, b52⟩
        have s54 := SG.of_below s51 b52
        refine ⟨_, rfl, s54, ?_⟩
        refine W.as (v := .int .i64 (findL ps x27.pipe)) (h := ?_)
        refine W.endF 72 [(0, .agg #[.int .i64 m, .slice A n c]), (1, .slice A2 n2 c2), (2, .pointer (some ⟨b2, 0, none⟩)), (4, .bool false), (5, .int .i64 ((K : Nat) : Int)), (6, .pointer (some ⟨b37, 0, none⟩)), (7, .int .i64 (findL ps x27.pipe)), (15, .bool false), (16, .slice A2 n2 c2), (17, .int .i64 ((n2 : Nat) : Int)), (18, .int .i64 ((K : Nat) : Int)), (19, .bool true)] (fun U55 => ?_)
        have x6 := SG.blk s54 x6 (by simp)
        have x47 := SG.blk s54 x47 (by simp)
        have c56 := (SG.belowR c50 s54 (fun kq e => by cases e))
        refine h12 _ _ ?_
        refine wp_seq_k (fun K13 h13 => ?_)
        refine wp_seq_k (fun K14 h14 => ?_)
        refine W.region_sch (row := none) (Sch.of [(0, false), (1, false), (2, true), (3, false), (4, false), (5, false), (6, false), (7, false), (8, false), (9, false), (10, false), (11, false), (12, false), (13, false), (14, false), (15, false), (16, false), (17, false), (18, false), (19, false), (20, false), (21, false), (22, false), (23, false), (24, false), (25, false), (26, false), (27, false), (28, false), (29, false), (30, false), (31, false), (32, false), (33, false), (34, false), (35, false), (36, true), (37, false), (38, false)]) (by kernel_rfl) (by kernel_rfl) (fun _ d _ _ _ h => by cases d <;> exact h) (by kernel_rfl) (fun w57 e58 s59 => ?_)
        refine W.q (v := .pointer (some ⟨b37, 0, none⟩)) (hr := (r_field0 rfl (by kernel_rfl) (by kernel_rfl))) (h := ?_)
        refine W.ld (v := .int .i64 x27.id) (hc := (sgS (blk_cell (j := 0) x47 (by kernel_rfl)) (by simp))) (h := ?_)
        refine W.sc (vs := [.int .i64 x27.id, .int .i64 1, .int .i64 99]) rfl rfl (by kernel_rfl) (by kernel_rfl) (by kernel_rfl) rfl (inside_any x27.id 1 99 _) ?_
        rintro e w' ⟨rfl, rfl⟩
        refine ⟨_, rfl, s59, ?_⟩
        rcases Bool.eq_false_or_eq_true (inB x27.id 1 99) with q62 | q62
        · rw [q62]
          refine W.q (v := .bool false) (hr := (r_not (b := true) rfl (by kernel_rfl) rfl)) (h := ?_)
          refine W.mv (v := .bool false) (h := ?_)
          refine W.mv (v := .int .i64 ((K : Nat) : Int)) (h := ?_)
          by_cases q63 : (((K : Nat) : Int) : Int) > (0 : Int)
          · obtain ⟨k, rfl⟩ : ∃ k, K = k + 1 := ⟨K - 1, by omega⟩
            refine W.q (v := .bool true) (hr := (r_gtr (m := (((k + 1) : Nat) : Int)) (n := 0) rfl (by kernel_rfl) (by kernel_rfl) (decide_eq_true q63))) (h := ?_)
            refine W.mv (v := .bool true) (h := ?_)
            refine W.mv (v := .slice A2 n2 c2) (h := ?_)
            refine W.mv (v := .int .i64 (((k + 1) : Nat) : Int)) (h := ?_)
            refine W.q (v := .int .i64 ((k : Nat) : Int)) (hr := (r_sub (m := (((k + 1) : Nat) : Int)) (n := 1) (z := ((k : Nat) : Int)) rfl (by kernel_rfl) (by kernel_rfl) (by omega) (by omega))) (h := ?_)
            obtain ⟨x64, hx65⟩ := get_of (zs := vs) (k := k) (by have := hl2; omega)
            obtain ⟨b66, o67, hA68, hb69, hc70, hc71, hc72, hc73⟩ := Rd.elValve hb hx65
            refine W.q (v := .pointer (some ⟨b66, o67 + k * 4, none⟩)) (hr := (r_idx (n := n2) (c := c2) (k := k) rfl (by kernel_rfl) hA68 (by kernel_rfl) (by kernel_rfl) (by have := hl2; omega))) (h := ?_)
            refine W.q (v := .pointer (some ⟨b66, o67 + k * 4, none⟩)) (hr := (r_field0 rfl (by kernel_rfl) (by kernel_rfl))) (h := ?_)
            refine W.ld (v := .int .i64 x64.id) (hc := (sgS (later c56 hc70) (by simp))) (h := ?_)
            refine W.q (v := .pointer (some ⟨b37, 0, none⟩)) (hr := (r_field0 rfl (by kernel_rfl) (by kernel_rfl))) (h := ?_)
            refine W.ld (v := .int .i64 x27.id) (hc := (sgS (blk_cell (j := 0) x47 (by kernel_rfl)) (by simp))) (h := ?_)
            by_cases q74 : (x64.id : Int) ≥ (x27.id : Int)
            · refine W.q (v := .bool true) (hr := (r_geq (m := x64.id) (n := x27.id) rfl (by kernel_rfl) (by kernel_rfl) (decide_eq_true q74))) (h := ?_)
              refine W.q (v := .bool true) (hr := (r_pick (b := true) rfl (by kernel_rfl) (by kernel_rfl))) (h := ?_)
              refine W.q (v := .bool true) (hr := (r_pick (b := false) rfl (by kernel_rfl) (by kernel_rfl))) (h := ?_)
              refine W.mv (v := .bool true) (h := ?_)
              refine W.sp s59 (h := ?_)
              refine W.sp s59 (h := ?_)
              refine W.q (v := .bool true) (hr := (r_pick (b := true) rfl (by kernel_rfl) (by kernel_rfl))) (h := ?_)
              refine W.mv (v := .bool true) (h := ?_)
              refine W.sp s59 (h := ?_)
              refine W.sp s59 (h := ?_)
              refine W.sp s59 (h := ?_)
              refine W.q (v := .bool true) (hr := (r_pick (b := true) rfl (by kernel_rfl) (by kernel_rfl))) (h := ?_)
              refine W.mv (v := .bool true) (h := ?_)
              refine W.sp s59 (h := ?_)
              refine W.sp s59 (h := ?_)
              refine W.sp s59 (h := ?_)
              refine W.sp s59 (h := ?_)
              refine W.sp s59 (h := ?_)
              refine W.sp s59 (h := ?_)
              refine W.sp s59 (h := ?_)
              refine W.sp s59 (h := ?_)
              refine W.sp s59 (h := ?_)
              refine W.q (v := .bool true) (hr := (r_pick (b := true) rfl (by kernel_rfl) (by kernel_rfl))) (h := ?_)
              refine W.endF 72 [(0, .agg #[.int .i64 m, .slice A n c]), (1, .slice A2 n2 c2), (2, .pointer (some ⟨b2, 0, none⟩)), (4, .bool false), (5, .int .i64 (((k + 1) : Nat) : Int)), (6, .pointer (some ⟨b37, 0, none⟩)), (7, .int .i64 (findL ps x27.pipe)), (15, .bool false), (16, .slice A2 n2 c2), (17, .int .i64 ((n2 : Nat) : Int)), (18, .int .i64 (((k + 1) : Nat) : Int)), (19, .bool true), (65, .bool true)] (fun U75 => ?_)
              have x6 := SG.blk s59 x6 (by simp)
              have x47 := SG.blk s59 x47 (by simp)
              have c76 := (SG.belowR c56 s59 (fun kq e => by cases e))
              refine h14 _ _ ?_
              refine wp_cond_true (by kernel_rfl) ?_
              refine wp_seq_k (fun K15 h15 => ?_)
              refine W.region_quiet [(0, false)] (by kernel_rfl) ?_
              refine W.as (v := .bool false) (h := ?_)
              refine W.endF 72 [(0, .agg #[.int .i64 m, .slice A n c]), (1, .slice A2 n2 c2), (2, .pointer (some ⟨b2, 0, none⟩)), (4, .bool false), (5, .int .i64 (((k + 1) : Nat) : Int)), (6, .pointer (some ⟨b37, 0, none⟩)), (7, .int .i64 (findL ps x27.pipe)), (15, .bool false), (16, .slice A2 n2 c2), (17, .int .i64 ((n2 : Nat) : Int)), (18, .int .i64 (((k + 1) : Nat) : Int)), (19, .bool true), (65, .bool true)] (fun U77 => ?_)
              refine h15 _ _ ?_
              refine wp_ret ?_
              try simp only [Exit.then, Exit.inBlock]
              refine ret1 (v := .bool false) rfl (by kernel_rfl) ?_
              have e8 : okV ps vs (k + 1) = false := Bool.eq_false_iff.2 (fun h9 => by
                have h8 := (okV_iff hx28).1 h9
                obtain ⟨⟨hA, hB⟩, hC, hD⟩ := h8
                obtain ⟨hC0, p9, hp9, hC1⟩ := endAt_pos hC
                have hg9 := (good_of q15).at hp9
                have h7 := (other_zero (u := x27.node) hg9.2.1.1 hg9.2.2.1.1)
                have hB' := of_decide_eq_true ((above_next hx65).symm.trans hB)
                first | omega | (rw [inB_iff.2 hA] at q62; cases q62))
              exact ⟨ret_bool (goodV_bad (k := k + 1) (by omega) e8).symm, c76⟩
            · refine W.q (v := .bool false) (hr := (r_geq (m := x64.id) (n := x27.id) rfl (by kernel_rfl) (by kernel_rfl) (decide_eq_false q74))) (h := ?_)
              refine W.q (v := .bool false) (hr := (r_pick (b := true) rfl (by kernel_rfl) (by kernel_rfl))) (h := ?_)
              refine W.q (v := .bool false) (hr := (r_pick (b := false) rfl (by kernel_rfl) (by kernel_rfl))) (h := ?_)
              refine W.mv (v := .bool false) (h := ?_)
              refine W.mv (v := .int .i64 (findL ps x27.pipe)) (h := ?_)
              by_cases q78 : (findL ps x27.pipe : Int) < (0 : Int)
              · refine W.q (v := .bool true) (hr := (r_lss (m := findL ps x27.pipe) (n := 0) rfl (by kernel_rfl) (by kernel_rfl) (decide_eq_true q78))) (h := ?_)
                refine W.q (v := .bool true) (hr := (r_pick (b := false) rfl (by kernel_rfl) (by kernel_rfl))) (h := ?_)
                refine W.mv (v := .bool true) (h := ?_)
                refine W.sp s59 (h := ?_)
                refine W.sp s59 (h := ?_)
                refine W.sp s59 (h := ?_)
                refine W.q (v := .bool true) (hr := (r_pick (b := true) rfl (by kernel_rfl) (by kernel_rfl))) (h := ?_)
                refine W.mv (v := .bool true) (h := ?_)
                refine W.sp s59 (h := ?_)
                refine W.sp s59 (h := ?_)
                refine W.sp s59 (h := ?_)
                refine W.sp s59 (h := ?_)
                refine W.sp s59 (h := ?_)
                refine W.sp s59 (h := ?_)
                refine W.sp s59 (h := ?_)
                refine W.sp s59 (h := ?_)
                refine W.sp s59 (h := ?_)
                refine W.q (v := .bool true) (hr := (r_pick (b := true) rfl (by kernel_rfl) (by kernel_rfl))) (h := ?_)
                refine W.endF 72 [(0, .agg #[.int .i64 m, .slice A n c]), (1, .slice A2 n2 c2), (2, .pointer (some ⟨b2, 0, none⟩)), (4, .bool false), (5, .int .i64 (((k + 1) : Nat) : Int)), (6, .pointer (some ⟨b37, 0, none⟩)), (7, .int .i64 (findL ps x27.pipe)), (15, .bool false), (16, .slice A2 n2 c2), (17, .int .i64 ((n2 : Nat) : Int)), (18, .int .i64 (((k + 1) : Nat) : Int)), (19, .bool true), (65, .bool true)] (fun U79 => ?_)
                have x6 := SG.blk s59 x6 (by simp)
                have x47 := SG.blk s59 x47 (by simp)
                have c80 := (SG.belowR c56 s59 (fun kq e => by cases e))
                refine h14 _ _ ?_
                refine wp_cond_true (by kernel_rfl) ?_
                refine wp_seq_k (fun K16 h16 => ?_)
                refine W.region_quiet [(0, false)] (by kernel_rfl) ?_
                refine W.as (v := .bool false) (h := ?_)
                refine W.endF 72 [(0, .agg #[.int .i64 m, .slice A n c]), (1, .slice A2 n2 c2), (2, .pointer (some ⟨b2, 0, none⟩)), (4, .bool false), (5, .int .i64 (((k + 1) : Nat) : Int)), (6, .pointer (some ⟨b37, 0, none⟩)), (7, .int .i64 (findL ps x27.pipe)), (15, .bool false), (16, .slice A2 n2 c2), (17, .int .i64 ((n2 : Nat) : Int)), (18, .int .i64 (((k + 1) : Nat) : Int)), (19, .bool true), (65, .bool true)] (fun U81 => ?_)
                refine h16 _ _ ?_
                refine wp_ret ?_
                try simp only [Exit.then, Exit.inBlock]
                refine ret1 (v := .bool false) rfl (by kernel_rfl) ?_
                have e8 : okV ps vs (k + 1) = false := Bool.eq_false_iff.2 (fun h9 => by
                  have h8 := (okV_iff hx28).1 h9
                  obtain ⟨⟨hA, hB⟩, hC, hD⟩ := h8
                  obtain ⟨hC0, p9, hp9, hC1⟩ := endAt_pos hC
                  have hg9 := (good_of q15).at hp9
                  have h7 := (other_zero (u := x27.node) hg9.2.1.1 hg9.2.2.1.1)
                  have hB' := of_decide_eq_true ((above_next hx65).symm.trans hB)
                  first | omega | (rw [inB_iff.2 hA] at q62; cases q62))
                exact ⟨ret_bool (goodV_bad (k := k + 1) (by omega) e8).symm, c80⟩
              · refine W.q (v := .bool false) (hr := (r_lss (m := findL ps x27.pipe) (n := 0) rfl (by kernel_rfl) (by kernel_rfl) (decide_eq_false q78))) (h := ?_)
                refine W.q (v := .bool false) (hr := (r_pick (b := false) rfl (by kernel_rfl) (by kernel_rfl))) (h := ?_)
                refine W.mv (v := .bool false) (h := ?_)
                refine W.q (v := .pointer (some ⟨b37, 2, none⟩)) (hr := (r_field (k := 2) rfl (by kernel_rfl) (by kernel_rfl))) (h := ?_)
                refine W.ld (v := .int .i64 x27.node) (hc := (sgS (blk_cell (j := 2) x47 (by kernel_rfl)) (by simp))) (h := ?_)
                by_cases q82 : (x27.node : Int) < (1 : Int)
                · refine W.q (v := .bool true) (hr := (r_lss (m := x27.node) (n := 1) rfl (by kernel_rfl) (by kernel_rfl) (decide_eq_true q82))) (h := ?_)
                  refine W.q (v := .bool true) (hr := (r_pick (b := false) rfl (by kernel_rfl) (by kernel_rfl))) (h := ?_)
                  refine W.mv (v := .bool true) (h := ?_)
                  refine W.sp s59 (h := ?_)
                  refine W.sp s59 (h := ?_)
                  refine W.sp s59 (h := ?_)
                  refine W.sp s59 (h := ?_)
                  refine W.sp s59 (h := ?_)
                  refine W.sp s59 (h := ?_)
                  refine W.sp s59 (h := ?_)
                  refine W.sp s59 (h := ?_)
                  refine W.sp s59 (h := ?_)
                  refine W.q (v := .bool true) (hr := (r_pick (b := true) rfl (by kernel_rfl) (by kernel_rfl))) (h := ?_)
                  refine W.endF 72 [(0, .agg #[.int .i64 m, .slice A n c]), (1, .slice A2 n2 c2), (2, .pointer (some ⟨b2, 0, none⟩)), (4, .bool false), (5, .int .i64 (((k + 1) : Nat) : Int)), (6, .pointer (some ⟨b37, 0, none⟩)), (7, .int .i64 (findL ps x27.pipe)), (15, .bool false), (16, .slice A2 n2 c2), (17, .int .i64 ((n2 : Nat) : Int)), (18, .int .i64 (((k + 1) : Nat) : Int)), (19, .bool true), (65, .bool true)] (fun U83 => ?_)
                  have x6 := SG.blk s59 x6 (by simp)
                  have x47 := SG.blk s59 x47 (by simp)
                  have c84 := (SG.belowR c56 s59 (fun kq e => by cases e))
                  refine h14 _ _ ?_
                  refine wp_cond_true (by kernel_rfl) ?_
                  refine wp_seq_k (fun K17 h17 => ?_)
                  refine W.region_quiet [(0, false)] (by kernel_rfl) ?_
                  refine W.as (v := .bool false) (h := ?_)
                  refine W.endF 72 [(0, .agg #[.int .i64 m, .slice A n c]), (1, .slice A2 n2 c2), (2, .pointer (some ⟨b2, 0, none⟩)), (4, .bool false), (5, .int .i64 (((k + 1) : Nat) : Int)), (6, .pointer (some ⟨b37, 0, none⟩)), (7, .int .i64 (findL ps x27.pipe)), (15, .bool false), (16, .slice A2 n2 c2), (17, .int .i64 ((n2 : Nat) : Int)), (18, .int .i64 (((k + 1) : Nat) : Int)), (19, .bool true), (65, .bool true)] (fun U85 => ?_)
                  refine h17 _ _ ?_
                  refine wp_ret ?_
                  try simp only [Exit.then, Exit.inBlock]
                  refine ret1 (v := .bool false) rfl (by kernel_rfl) ?_
                  have e8 : okV ps vs (k + 1) = false := Bool.eq_false_iff.2 (fun h9 => by
                    have h8 := (okV_iff hx28).1 h9
                    obtain ⟨⟨hA, hB⟩, hC, hD⟩ := h8
                    obtain ⟨hC0, p9, hp9, hC1⟩ := endAt_pos hC
                    have hg9 := (good_of q15).at hp9
                    have h7 := (other_zero (u := x27.node) hg9.2.1.1 hg9.2.2.1.1)
                    have hB' := of_decide_eq_true ((above_next hx65).symm.trans hB)
                    first | omega | (rw [inB_iff.2 hA] at q62; cases q62))
                  exact ⟨ret_bool (goodV_bad (k := k + 1) (by omega) e8).symm, c84⟩
                · refine W.q (v := .bool false) (hr := (r_lss (m := x27.node) (n := 1) rfl (by kernel_rfl) (by kernel_rfl) (decide_eq_false q82))) (h := ?_)
                  refine W.q (v := .bool false) (hr := (r_pick (b := false) rfl (by kernel_rfl) (by kernel_rfl))) (h := ?_)
                  refine W.mv (v := .bool false) (h := ?_)
                  refine W.q (v := .pointer (some ⟨b2, 1, none⟩)) (hr := (r_field (k := 1) rfl (by kernel_rfl) (by kernel_rfl))) (h := ?_)
                  refine W.ld (v := .slice A n c) (hc := (sgS (blk_cell (j := 1) x6 (by kernel_rfl)) (by simp))) (h := ?_)
                  refine W.mv (v := .int .i64 (findL ps x27.pipe)) (h := ?_)
                  have hfl := findL_lt ps x27.pipe
                  obtain ⟨pz, hpz⟩ := get_of (zs := ps) (k := (findL ps x27.pipe).toNat) (by omega)
                  have hgz := (good_of q15).at hpz
                  obtain ⟨b86, o87, hA88, hb89, hc90, hc91, hc92, hc93⟩ := Rd.elPipe ha hpz
                  refine W.q (v := .pointer (some ⟨b86, o87 + ((findL ps x27.pipe).toNat) * 4, none⟩)) (hr := (r_idx (n := n) (c := c) (k := (findL ps x27.pipe).toNat) rfl (by kernel_rfl) hA88 (evk (z := findL ps x27.pipe) (by kernel_rfl) (by omega)) (by kernel_rfl) (by have := hl; omega))) (h := ?_)
                  refine W.q (v := .agg #[.int .i64 pz.id, .int .i64 pz.fr, .int .i64 pz.to, .int .i64 pz.sz]) (hr := (r_load4 rfl (by kernel_rfl) (by kernel_rfl) (by kernel_rfl) (sgS (later c56 hc90) (by simp)) (sgS (later c56 hc91) (by simp)) (sgS (later c56 hc92) (by simp)) (sgS (later c56 hc93) (by simp)))) (h := ?_)
                  refine W.q (v := .pointer (some ⟨b37, 2, none⟩)) (hr := (r_field (k := 2) rfl (by kernel_rfl) (by kernel_rfl))) (h := ?_)
                  refine W.ld (v := .int .i64 x27.node) (hc := (sgS (blk_cell (j := 2) x47 (by kernel_rfl)) (by simp))) (h := ?_)
                  refine W.sc (vs := [.agg #[.int .i64 pz.id, .int .i64 pz.fr, .int .i64 pz.to, .int .i64 pz.sz], .int .i64 x27.node]) rfl rfl (by kernel_rfl) (by kernel_rfl) (by kernel_rfl) rfl (other_any pz x27.node _) ?_
                  rintro e w95 ⟨rfl, b94⟩
                  have s96 := SG.of_below s59 b94
                  refine ⟨_, rfl, s96, ?_⟩
                  by_cases q97 : (otherOf pz x27.node : Int) = (0 : Int)
                  · refine W.q (v := .bool true) (hr := (r_eql (m := otherOf pz x27.node) (n := 0) rfl (by kernel_rfl) (by kernel_rfl) (decide_eq_true q97))) (h := ?_)
                    refine W.q (v := .bool true) (hr := (r_pick (b := false) rfl (by kernel_rfl) (by kernel_rfl))) (h := ?_)
                    refine W.endF 72 [(0, .agg #[.int .i64 m, .slice A n c]), (1, .slice A2 n2 c2), (2, .pointer (some ⟨b2, 0, none⟩)), (4, .bool false), (5, .int .i64 (((k + 1) : Nat) : Int)), (6, .pointer (some ⟨b37, 0, none⟩)), (7, .int .i64 (findL ps x27.pipe)), (15, .bool false), (16, .slice A2 n2 c2), (17, .int .i64 ((n2 : Nat) : Int)), (18, .int .i64 (((k + 1) : Nat) : Int)), (19, .bool true), (65, .bool true)] (fun U98 => ?_)
                    have x6 := SG.blk s96 x6 (by simp)
                    have x47 := SG.blk s96 x47 (by simp)
                    have c99 := (SG.belowR c56 s96 (fun kq e => by cases e))
                    refine h14 _ _ ?_
                    refine wp_cond_true (by kernel_rfl) ?_
                    refine wp_seq_k (fun K18 h18 => ?_)
                    refine W.region_quiet [(0, false)] (by kernel_rfl) ?_
                    refine W.as (v := .bool false) (h := ?_)
                    refine W.endF 72 [(0, .agg #[.int .i64 m, .slice A n c]), (1, .slice A2 n2 c2), (2, .pointer (some ⟨b2, 0, none⟩)), (4, .bool false), (5, .int .i64 (((k + 1) : Nat) : Int)), (6, .pointer (some ⟨b37, 0, none⟩)), (7, .int .i64 (findL ps x27.pipe)), (15, .bool false), (16, .slice A2 n2 c2), (17, .int .i64 ((n2 : Nat) : Int)), (18, .int .i64 (((k + 1) : Nat) : Int)), (19, .bool true), (65, .bool true)] (fun U100 => ?_)
                    refine h18 _ _ ?_
                    refine wp_ret ?_
                    try simp only [Exit.then, Exit.inBlock]
                    refine ret1 (v := .bool false) rfl (by kernel_rfl) ?_
                    have e8 : okV ps vs (k + 1) = false := Bool.eq_false_iff.2 (fun h9 => by
                      have h8 := (okV_iff hx28).1 h9
                      obtain ⟨⟨hA, hB⟩, hC, hD⟩ := h8
                      obtain ⟨hC0, p9, hp9, hC1⟩ := endAt_pos hC
                      have hg9 := (good_of q15).at hp9
                      have h7 := (other_zero (u := x27.node) hg9.2.1.1 hg9.2.2.1.1)
                      have hB' := of_decide_eq_true ((above_next hx65).symm.trans hB)
                      obtain rfl := Option.some.inj (hp9.symm.trans hpz)
                      first | omega | (rw [inB_iff.2 hA] at q62; cases q62))
                    exact ⟨ret_bool (goodV_bad (k := k + 1) (by omega) e8).symm, c99⟩
                  · refine W.q (v := .bool false) (hr := (r_eql (m := otherOf pz x27.node) (n := 0) rfl (by kernel_rfl) (by kernel_rfl) (decide_eq_false q97))) (h := ?_)
                    refine W.q (v := .bool false) (hr := (r_pick (b := false) rfl (by kernel_rfl) (by kernel_rfl))) (h := ?_)
                    refine W.endF 72 [(0, .agg #[.int .i64 m, .slice A n c]), (1, .slice A2 n2 c2), (2, .pointer (some ⟨b2, 0, none⟩)), (4, .bool false), (5, .int .i64 (((k + 1) : Nat) : Int)), (6, .pointer (some ⟨b37, 0, none⟩)), (7, .int .i64 (findL ps x27.pipe)), (15, .bool false), (16, .slice A2 n2 c2), (17, .int .i64 ((n2 : Nat) : Int)), (18, .int .i64 (((k + 1) : Nat) : Int)), (19, .bool true), (65, .bool false)] (fun U101 => ?_)
                    have x6 := SG.blk s96 x6 (by simp)
                    have x47 := SG.blk s96 x47 (by simp)
                    have c102 := (SG.belowR c56 s96 (fun kq e => by cases e))
                    refine h14 _ _ ?_
                    refine wp_cond_false (by kernel_rfl) ?_
                    refine wp_skip ?_
                    refine h13 _ _ ?_
                    refine wp_seq_k (fun K19 h19 => ?_)
                    refine W.region_plain (row := none) [(0, false), (1, false), (2, false), (3, false), (4, true)] (by kernel_rfl) ?_
                    have s103 := SG.self w95 none
                    refine W.mv (v := .slice A2 n2 c2) (h := ?_)
                    refine W.mv (v := .int .i64 (((k + 1) : Nat) : Int)) (h := ?_)
                    refine W.q (v := .slice A2 (k + 1) c2) (hr := (r_sliceTo (A := A2) (n := n2) (c := c2) (k := (k + 1)) (size := 4) rfl (by kernel_rfl) (by kernel_rfl) (by kernel_rfl) (by have := (hfm2).le; omega))) (h := ?_)
                    refine W.q (v := .func (.func 119) #[] #[.pointer (some ⟨b37, 0, none⟩)]) (hr := (r_makeFunc (vs := [.pointer (some ⟨b37, 0, none⟩)]) rfl (by kernel_rfl))) (h := ?_)
                    refine W.sc (vs := [.slice A2 (k + 1) c2, .func (.func 119) #[] #[.pointer (some ⟨b37, 0, none⟩)]]) rfl rfl (by kernel_rfl) (by kernel_rfl) (by kernel_rfl) rfl (anyV_any A2 (k + 1) c2 (vs.take (k + 1)) 119 #[.pointer (some ⟨b37, 0, none⟩)] (fun v => decide (v.pipe = x27.pipe) && decide (v.node = x27.node)) _ (Rd.toV (Rd.kept hb (SG.belowR c102 s103 (fun kq e => by cases e))) (by omega)) (by omega) (by kernel_rfl) (fun W v hW => validF_any v x27 b37 W ((hW.block _ (blk_lt x47)).trans x47))) ?_
                    rintro e w105 ⟨rfl, b104⟩
                    have s106 := SG.of_below s103 b104
                    refine ⟨_, rfl, s106, ?_⟩
                    rcases Bool.eq_false_or_eq_true ((vs.take (k + 1)).any (fun v => decide (v.pipe = x27.pipe) && decide (v.node = x27.node))) with q107 | q107
                    · rw [q107]
                      refine W.endF 72 [(0, .agg #[.int .i64 m, .slice A n c]), (1, .slice A2 n2 c2), (2, .pointer (some ⟨b2, 0, none⟩)), (4, .bool false), (5, .int .i64 (((k + 1) : Nat) : Int)), (6, .pointer (some ⟨b37, 0, none⟩)), (7, .int .i64 (findL ps x27.pipe)), (15, .bool false), (16, .slice A2 n2 c2), (17, .int .i64 ((n2 : Nat) : Int)), (18, .int .i64 (((k + 1) : Nat) : Int)), (19, .bool true), (65, .bool false), (70, .bool true)] (fun U108 => ?_)
                      have x6 := SG.blk s106 x6 (by simp)
                      have x47 := SG.blk s106 x47 (by simp)
                      have c109 := (SG.belowR c102 s106 (fun kq e => by cases e))
                      refine h19 _ _ ?_
                      refine wp_cond_true (by kernel_rfl) ?_
                      refine wp_seq_k (fun K20 h20 => ?_)
                      refine W.region_quiet [(0, false)] (by kernel_rfl) ?_
                      refine W.as (v := .bool false) (h := ?_)
                      refine W.endF 72 [(0, .agg #[.int .i64 m, .slice A n c]), (1, .slice A2 n2 c2), (2, .pointer (some ⟨b2, 0, none⟩)), (4, .bool false), (5, .int .i64 (((k + 1) : Nat) : Int)), (6, .pointer (some ⟨b37, 0, none⟩)), (7, .int .i64 (findL ps x27.pipe)), (15, .bool false), (16, .slice A2 n2 c2), (17, .int .i64 ((n2 : Nat) : Int)), (18, .int .i64 (((k + 1) : Nat) : Int)), (19, .bool true), (65, .bool false), (70, .bool true)] (fun U110 => ?_)
                      refine h20 _ _ ?_
                      refine wp_ret ?_
                      try simp only [Exit.then, Exit.inBlock]
                      refine ret1 (v := .bool false) rfl (by kernel_rfl) ?_
                      have e8 : okV ps vs (k + 1) = false := Bool.eq_false_iff.2 (fun h9 => by
                        have h8 := (okV_iff hx28).1 h9
                        obtain ⟨⟨hA, hB⟩, hC, hD⟩ := h8
                        obtain ⟨hC0, p9, hp9, hC1⟩ := endAt_pos hC
                        have hg9 := (good_of q15).at hp9
                        have h7 := (other_zero (u := x27.node) hg9.2.1.1 hg9.2.2.1.1)
                        have hB' := of_decide_eq_true ((above_next hx65).symm.trans hB)
                        obtain rfl := Option.some.inj (hp9.symm.trans hpz)
                        exact absurd (show placed (vs.take (k + 1)) x27.pipe x27.node = true from q107) (by rw [hD]; simp))
                      exact ⟨ret_bool (goodV_bad (k := k + 1) (by omega) e8).symm, c109⟩
                    · rw [q107]
                      refine W.endF 72 [(0, .agg #[.int .i64 m, .slice A n c]), (1, .slice A2 n2 c2), (2, .pointer (some ⟨b2, 0, none⟩)), (4, .bool false), (5, .int .i64 (((k + 1) : Nat) : Int)), (6, .pointer (some ⟨b37, 0, none⟩)), (7, .int .i64 (findL ps x27.pipe)), (15, .bool false), (16, .slice A2 n2 c2), (17, .int .i64 ((n2 : Nat) : Int)), (18, .int .i64 (((k + 1) : Nat) : Int)), (19, .bool true), (65, .bool false), (70, .bool false)] (fun U111 => ?_)
                      have x6 := SG.blk s106 x6 (by simp)
                      have x47 := SG.blk s106 x47 (by simp)
                      have c112 := (SG.belowR c102 s106 (fun kq e => by cases e))
                      refine h19 _ _ ?_
                      refine wp_cond_false (by kernel_rfl) ?_
                      refine wp_skip ?_
                      refine h10 _ _ ?_
                      refine W.region_quiet [(0, false), (1, false)] (by kernel_rfl) ?_
                      refine W.q (v := .int .i64 (((k + 1) + 1 : Nat) : Int)) (hr := (r_add (m := (((k + 1) : Nat) : Int)) (n := 1) (z := (((k + 1) + 1 : Nat) : Int)) rfl (by kernel_rfl) (by kernel_rfl) (by omega) (by omega))) (h := ?_)
                      refine W.mv (v := .int .i64 (((k + 1) + 1 : Nat) : Int)) (h := ?_)
                      refine W.endF 72 [(0, .agg #[.int .i64 m, .slice A n c]), (1, .slice A2 n2 c2), (2, .pointer (some ⟨b2, 0, none⟩)), (4, .bool false), (5, .int .i64 (((k + 1) : Nat) : Int)), (6, .pointer (some ⟨b37, 0, none⟩)), (7, .int .i64 (findL ps x27.pipe)), (15, .bool false), (16, .slice A2 n2 c2), (17, .int .i64 ((n2 : Nat) : Int)), (18, .int .i64 (((k + 1) + 1 : Nat) : Int)), (19, .bool true), (65, .bool false), (70, .bool false)] (fun U113 => ?_)
                      exact h7 _ _ _ (by omega : (n2 - (k + 1 + 1)) < _) ⟨k + 1 + 1, (fun iU9 => lk [(0, .agg #[.int .i64 m, .slice A n c]), (1, .slice A2 n2 c2), (2, .pointer (some ⟨b2, 0, none⟩)), (4, .bool false), (5, .int .i64 (((k + 1) : Nat) : Int)), (6, .pointer (some ⟨b37, 0, none⟩)), (7, .int .i64 (findL ps x27.pipe)), (15, .bool false), (16, .slice A2 n2 c2), (17, .int .i64 ((n2 : Nat) : Int)), (18, .int .i64 (((k + 1) + 1 : Nat) : Int)), (19, .bool true), (65, .bool false), (70, .bool false)] iU9 (U113 iU9)), (by kernel_rfl), rfl, (by omega), (okVTo_next hok ((okV_iff hx28).2 ⟨⟨inB_iff.1 q62, (by rw [above_next hx65]; exact decide_eq_true (by omega))⟩, endAt_of (by omega) hpz (by have h9 := (other_zero (u := x27.node) hgz.2.1.1 hgz.2.2.1.1); omega), q107⟩)), x6, c112⟩
          · refine W.q (v := .bool false) (hr := (r_gtr (m := ((K : Nat) : Int)) (n := 0) rfl (by kernel_rfl) (by kernel_rfl) (decide_eq_false q63))) (h := ?_)
            refine W.mv (v := .bool false) (h := ?_)
            refine W.sp s59 (h := ?_)
            refine W.sp s59 (h := ?_)
            refine W.sp s59 (h := ?_)
            refine W.sp s59 (h := ?_)
            refine W.sp s59 (h := ?_)
            refine W.sp s59 (h := ?_)
            refine W.sp s59 (h := ?_)
            refine W.sp s59 (h := ?_)
            refine W.sp s59 (h := ?_)
            refine W.q (v := .bool false) (hr := (r_pick (b := false) rfl (by kernel_rfl) (by kernel_rfl))) (h := ?_)
            refine W.q (v := .bool false) (hr := (r_pick (b := false) rfl (by kernel_rfl) (by kernel_rfl))) (h := ?_)
            refine W.mv (v := .bool false) (h := ?_)
            refine W.mv (v := .int .i64 (findL ps x27.pipe)) (h := ?_)
            by_cases q114 : (findL ps x27.pipe : Int) < (0 : Int)
            · refine W.q (v := .bool true) (hr := (r_lss (m := findL ps x27.pipe) (n := 0) rfl (by kernel_rfl) (by kernel_rfl) (decide_eq_true q114))) (h := ?_)
              refine W.q (v := .bool true) (hr := (r_pick (b := false) rfl (by kernel_rfl) (by kernel_rfl))) (h := ?_)
              refine W.mv (v := .bool true) (h := ?_)
              refine W.sp s59 (h := ?_)
              refine W.sp s59 (h := ?_)
              refine W.sp s59 (h := ?_)
              refine W.q (v := .bool true) (hr := (r_pick (b := true) rfl (by kernel_rfl) (by kernel_rfl))) (h := ?_)
              refine W.mv (v := .bool true) (h := ?_)
              refine W.sp s59 (h := ?_)
              refine W.sp s59 (h := ?_)
              refine W.sp s59 (h := ?_)
              refine W.sp s59 (h := ?_)
              refine W.sp s59 (h := ?_)
              refine W.sp s59 (h := ?_)
              refine W.sp s59 (h := ?_)
              refine W.sp s59 (h := ?_)
              refine W.sp s59 (h := ?_)
              refine W.q (v := .bool true) (hr := (r_pick (b := true) rfl (by kernel_rfl) (by kernel_rfl))) (h := ?_)
              refine W.endF 72 [(0, .agg #[.int .i64 m, .slice A n c]), (1, .slice A2 n2 c2), (2, .pointer (some ⟨b2, 0, none⟩)), (4, .bool false), (5, .int .i64 ((K : Nat) : Int)), (6, .pointer (some ⟨b37, 0, none⟩)), (7, .int .i64 (findL ps x27.pipe)), (15, .bool false), (16, .slice A2 n2 c2), (17, .int .i64 ((n2 : Nat) : Int)), (18, .int .i64 ((K : Nat) : Int)), (19, .bool true), (65, .bool true)] (fun U115 => ?_)
              have x6 := SG.blk s59 x6 (by simp)
              have x47 := SG.blk s59 x47 (by simp)
              have c116 := (SG.belowR c56 s59 (fun kq e => by cases e))
              refine h14 _ _ ?_
              refine wp_cond_true (by kernel_rfl) ?_
              refine wp_seq_k (fun K21 h21 => ?_)
              refine W.region_quiet [(0, false)] (by kernel_rfl) ?_
              refine W.as (v := .bool false) (h := ?_)
              refine W.endF 72 [(0, .agg #[.int .i64 m, .slice A n c]), (1, .slice A2 n2 c2), (2, .pointer (some ⟨b2, 0, none⟩)), (4, .bool false), (5, .int .i64 ((K : Nat) : Int)), (6, .pointer (some ⟨b37, 0, none⟩)), (7, .int .i64 (findL ps x27.pipe)), (15, .bool false), (16, .slice A2 n2 c2), (17, .int .i64 ((n2 : Nat) : Int)), (18, .int .i64 ((K : Nat) : Int)), (19, .bool true), (65, .bool true)] (fun U117 => ?_)
              refine h21 _ _ ?_
              refine wp_ret ?_
              try simp only [Exit.then, Exit.inBlock]
              refine ret1 (v := .bool false) rfl (by kernel_rfl) ?_
              have e8 : okV ps vs (K) = false := Bool.eq_false_iff.2 (fun h9 => by
                have h8 := (okV_iff hx28).1 h9
                obtain ⟨⟨hA, hB⟩, hC, hD⟩ := h8
                obtain ⟨hC0, p9, hp9, hC1⟩ := endAt_pos hC
                have hg9 := (good_of q15).at hp9
                have h7 := (other_zero (u := x27.node) hg9.2.1.1 hg9.2.2.1.1)
                first | omega | (rw [inB_iff.2 hA] at q62; cases q62))
              exact ⟨ret_bool (goodV_bad (k := K) (by omega) e8).symm, c116⟩
            · refine W.q (v := .bool false) (hr := (r_lss (m := findL ps x27.pipe) (n := 0) rfl (by kernel_rfl) (by kernel_rfl) (decide_eq_false q114))) (h := ?_)
              refine W.q (v := .bool false) (hr := (r_pick (b := false) rfl (by kernel_rfl) (by kernel_rfl))) (h := ?_)
              refine W.mv (v := .bool false) (h := ?_)
              refine W.q (v := .pointer (some ⟨b37, 2, none⟩)) (hr := (r_field (k := 2) rfl (by kernel_rfl) (by kernel_rfl))) (h := ?_)
              refine W.ld (v := .int .i64 x27.node) (hc := (sgS (blk_cell (j := 2) x47 (by kernel_rfl)) (by simp))) (h := ?_)
              by_cases q118 : (x27.node : Int) < (1 : Int)
              · refine W.q (v := .bool true) (hr := (r_lss (m := x27.node) (n := 1) rfl (by kernel_rfl) (by kernel_rfl) (decide_eq_true q118))) (h := ?_)
                refine W.q (v := .bool true) (hr := (r_pick (b := false) rfl (by kernel_rfl) (by kernel_rfl))) (h := ?_)
                refine W.mv (v := .bool true) (h := ?_)
                refine W.sp s59 (h := ?_)
                refine W.sp s59 (h := ?_)
                refine W.sp s59 (h := ?_)
                refine W.sp s59 (h := ?_)
                refine W.sp s59 (h := ?_)
                refine W.sp s59 (h := ?_)
                refine W.sp s59 (h := ?_)
                refine W.sp s59 (h := ?_)
                refine W.sp s59 (h := ?_)
                refine W.q (v := .bool true) (hr := (r_pick (b := true) rfl (by kernel_rfl) (by kernel_rfl))) (h := ?_)
                refine W.endF 72 [(0, .agg #[.int .i64 m, .slice A n c]), (1, .slice A2 n2 c2), (2, .pointer (some ⟨b2, 0, none⟩)), (4, .bool false), (5, .int .i64 ((K : Nat) : Int)), (6, .pointer (some ⟨b37, 0, none⟩)), (7, .int .i64 (findL ps x27.pipe)), (15, .bool false), (16, .slice A2 n2 c2), (17, .int .i64 ((n2 : Nat) : Int)), (18, .int .i64 ((K : Nat) : Int)), (19, .bool true), (65, .bool true)] (fun U119 => ?_)
                have x6 := SG.blk s59 x6 (by simp)
                have x47 := SG.blk s59 x47 (by simp)
                have c120 := (SG.belowR c56 s59 (fun kq e => by cases e))
                refine h14 _ _ ?_
                refine wp_cond_true (by kernel_rfl) ?_
                refine wp_seq_k (fun K22 h22 => ?_)
                refine W.region_quiet [(0, false)] (by kernel_rfl) ?_
                refine W.as (v := .bool false) (h := ?_)
                refine W.endF 72 [(0, .agg #[.int .i64 m, .slice A n c]), (1, .slice A2 n2 c2), (2, .pointer (some ⟨b2, 0, none⟩)), (4, .bool false), (5, .int .i64 ((K : Nat) : Int)), (6, .pointer (some ⟨b37, 0, none⟩)), (7, .int .i64 (findL ps x27.pipe)), (15, .bool false), (16, .slice A2 n2 c2), (17, .int .i64 ((n2 : Nat) : Int)), (18, .int .i64 ((K : Nat) : Int)), (19, .bool true), (65, .bool true)] (fun U121 => ?_)
                refine h22 _ _ ?_
                refine wp_ret ?_
                try simp only [Exit.then, Exit.inBlock]
                refine ret1 (v := .bool false) rfl (by kernel_rfl) ?_
                have e8 : okV ps vs (K) = false := Bool.eq_false_iff.2 (fun h9 => by
                  have h8 := (okV_iff hx28).1 h9
                  obtain ⟨⟨hA, hB⟩, hC, hD⟩ := h8
                  obtain ⟨hC0, p9, hp9, hC1⟩ := endAt_pos hC
                  have hg9 := (good_of q15).at hp9
                  have h7 := (other_zero (u := x27.node) hg9.2.1.1 hg9.2.2.1.1)
                  first | omega | (rw [inB_iff.2 hA] at q62; cases q62))
                exact ⟨ret_bool (goodV_bad (k := K) (by omega) e8).symm, c120⟩
              · refine W.q (v := .bool false) (hr := (r_lss (m := x27.node) (n := 1) rfl (by kernel_rfl) (by kernel_rfl) (decide_eq_false q118))) (h := ?_)
                refine W.q (v := .bool false) (hr := (r_pick (b := false) rfl (by kernel_rfl) (by kernel_rfl))) (h := ?_)
                refine W.mv (v := .bool false) (h := ?_)
                refine W.q (v := .pointer (some ⟨b2, 1, none⟩)) (hr := (r_field (k := 1) rfl (by kernel_rfl) (by kernel_rfl))) (h := ?_)
                refine W.ld (v := .slice A n c) (hc := (sgS (blk_cell (j := 1) x6 (by kernel_rfl)) (by simp))) (h := ?_)
                refine W.mv (v := .int .i64 (findL ps x27.pipe)) (h := ?_)
                have hfl := findL_lt ps x27.pipe
                obtain ⟨pz, hpz⟩ := get_of (zs := ps) (k := (findL ps x27.pipe).toNat) (by omega)
                have hgz := (good_of q15).at hpz
                obtain ⟨b122, o123, hA124, hb125, hc126, hc127, hc128, hc129⟩ := Rd.elPipe ha hpz
                refine W.q (v := .pointer (some ⟨b122, o123 + ((findL ps x27.pipe).toNat) * 4, none⟩)) (hr := (r_idx (n := n) (c := c) (k := (findL ps x27.pipe).toNat) rfl (by kernel_rfl) hA124 (evk (z := findL ps x27.pipe) (by kernel_rfl) (by omega)) (by kernel_rfl) (by have := hl; omega))) (h := ?_)
                refine W.q (v := .agg #[.int .i64 pz.id, .int .i64 pz.fr, .int .i64 pz.to, .int .i64 pz.sz]) (hr := (r_load4 rfl (by kernel_rfl) (by kernel_rfl) (by kernel_rfl) (sgS (later c56 hc126) (by simp)) (sgS (later c56 hc127) (by simp)) (sgS (later c56 hc128) (by simp)) (sgS (later c56 hc129) (by simp)))) (h := ?_)
                refine W.q (v := .pointer (some ⟨b37, 2, none⟩)) (hr := (r_field (k := 2) rfl (by kernel_rfl) (by kernel_rfl))) (h := ?_)
                refine W.ld (v := .int .i64 x27.node) (hc := (sgS (blk_cell (j := 2) x47 (by kernel_rfl)) (by simp))) (h := ?_)
                refine W.sc (vs := [.agg #[.int .i64 pz.id, .int .i64 pz.fr, .int .i64 pz.to, .int .i64 pz.sz], .int .i64 x27.node]) rfl rfl (by kernel_rfl) (by kernel_rfl) (by kernel_rfl) rfl (other_any pz x27.node _) ?_
                rintro e w131 ⟨rfl, b130⟩
                have s132 := SG.of_below s59 b130
                refine ⟨_, rfl, s132, ?_⟩
                by_cases q133 : (otherOf pz x27.node : Int) = (0 : Int)
                · refine W.q (v := .bool true) (hr := (r_eql (m := otherOf pz x27.node) (n := 0) rfl (by kernel_rfl) (by kernel_rfl) (decide_eq_true q133))) (h := ?_)
                  refine W.q (v := .bool true) (hr := (r_pick (b := false) rfl (by kernel_rfl) (by kernel_rfl))) (h := ?_)
                  refine W.endF 72 [(0, .agg #[.int .i64 m, .slice A n c]), (1, .slice A2 n2 c2), (2, .pointer (some ⟨b2, 0, none⟩)), (4, .bool false), (5, .int .i64 ((K : Nat) : Int)), (6, .pointer (some ⟨b37, 0, none⟩)), (7, .int .i64 (findL ps x27.pipe)), (15, .bool false), (16, .slice A2 n2 c2), (17, .int .i64 ((n2 : Nat) : Int)), (18, .int .i64 ((K : Nat) : Int)), (19, .bool true), (65, .bool true)] (fun U134 => ?_)
                  have x6 := SG.blk s132 x6 (by simp)
                  have x47 := SG.blk s132 x47 (by simp)
                  have c135 := (SG.belowR c56 s132 (fun kq e => by cases e))
                  refine h14 _ _ ?_
                  refine wp_cond_true (by kernel_rfl) ?_
                  refine wp_seq_k (fun K23 h23 => ?_)
                  refine W.region_quiet [(0, false)] (by kernel_rfl) ?_
                  refine W.as (v := .bool false) (h := ?_)
                  refine W.endF 72 [(0, .agg #[.int .i64 m, .slice A n c]), (1, .slice A2 n2 c2), (2, .pointer (some ⟨b2, 0, none⟩)), (4, .bool false), (5, .int .i64 ((K : Nat) : Int)), (6, .pointer (some ⟨b37, 0, none⟩)), (7, .int .i64 (findL ps x27.pipe)), (15, .bool false), (16, .slice A2 n2 c2), (17, .int .i64 ((n2 : Nat) : Int)), (18, .int .i64 ((K : Nat) : Int)), (19, .bool true), (65, .bool true)] (fun U136 => ?_)
                  refine h23 _ _ ?_
                  refine wp_ret ?_
                  try simp only [Exit.then, Exit.inBlock]
                  refine ret1 (v := .bool false) rfl (by kernel_rfl) ?_
                  have e8 : okV ps vs (K) = false := Bool.eq_false_iff.2 (fun h9 => by
                    have h8 := (okV_iff hx28).1 h9
                    obtain ⟨⟨hA, hB⟩, hC, hD⟩ := h8
                    obtain ⟨hC0, p9, hp9, hC1⟩ := endAt_pos hC
                    have hg9 := (good_of q15).at hp9
                    have h7 := (other_zero (u := x27.node) hg9.2.1.1 hg9.2.2.1.1)
                    obtain rfl := Option.some.inj (hp9.symm.trans hpz)
                    first | omega | (rw [inB_iff.2 hA] at q62; cases q62))
                  exact ⟨ret_bool (goodV_bad (k := K) (by omega) e8).symm, c135⟩
                · refine W.q (v := .bool false) (hr := (r_eql (m := otherOf pz x27.node) (n := 0) rfl (by kernel_rfl) (by kernel_rfl) (decide_eq_false q133))) (h := ?_)
                  refine W.q (v := .bool false) (hr := (r_pick (b := false) rfl (by kernel_rfl) (by kernel_rfl))) (h := ?_)
                  refine W.endF 72 [(0, .agg #[.int .i64 m, .slice A n c]), (1, .slice A2 n2 c2), (2, .pointer (some ⟨b2, 0, none⟩)), (4, .bool false), (5, .int .i64 ((K : Nat) : Int)), (6, .pointer (some ⟨b37, 0, none⟩)), (7, .int .i64 (findL ps x27.pipe)), (15, .bool false), (16, .slice A2 n2 c2), (17, .int .i64 ((n2 : Nat) : Int)), (18, .int .i64 ((K : Nat) : Int)), (19, .bool true), (65, .bool false)] (fun U137 => ?_)
                  have x6 := SG.blk s132 x6 (by simp)
                  have x47 := SG.blk s132 x47 (by simp)
                  have c138 := (SG.belowR c56 s132 (fun kq e => by cases e))
                  refine h14 _ _ ?_
                  refine wp_cond_false (by kernel_rfl) ?_
                  refine wp_skip ?_
                  refine h13 _ _ ?_
                  refine wp_seq_k (fun K24 h24 => ?_)
                  refine W.region_plain (row := none) [(0, false), (1, false), (2, false), (3, false), (4, true)] (by kernel_rfl) ?_
                  have s139 := SG.self w131 none
                  refine W.mv (v := .slice A2 n2 c2) (h := ?_)
                  refine W.mv (v := .int .i64 ((K : Nat) : Int)) (h := ?_)
                  refine W.q (v := .slice A2 K c2) (hr := (r_sliceTo (A := A2) (n := n2) (c := c2) (k := K) (size := 4) rfl (by kernel_rfl) (by kernel_rfl) (by kernel_rfl) (by have := (hfm2).le; omega))) (h := ?_)
                  refine W.q (v := .func (.func 119) #[] #[.pointer (some ⟨b37, 0, none⟩)]) (hr := (r_makeFunc (vs := [.pointer (some ⟨b37, 0, none⟩)]) rfl (by kernel_rfl))) (h := ?_)
                  refine W.sc (vs := [.slice A2 K c2, .func (.func 119) #[] #[.pointer (some ⟨b37, 0, none⟩)]]) rfl rfl (by kernel_rfl) (by kernel_rfl) (by kernel_rfl) rfl (anyV_any A2 K c2 (vs.take K) 119 #[.pointer (some ⟨b37, 0, none⟩)] (fun v => decide (v.pipe = x27.pipe) && decide (v.node = x27.node)) _ (Rd.toV (Rd.kept hb (SG.belowR c138 s139 (fun kq e => by cases e))) (by omega)) (by omega) (by kernel_rfl) (fun W v hW => validF_any v x27 b37 W ((hW.block _ (blk_lt x47)).trans x47))) ?_
                  rintro e w141 ⟨rfl, b140⟩
                  have s142 := SG.of_below s139 b140
                  refine ⟨_, rfl, s142, ?_⟩
                  rcases Bool.eq_false_or_eq_true ((vs.take K).any (fun v => decide (v.pipe = x27.pipe) && decide (v.node = x27.node))) with q143 | q143
                  · rw [q143]
                    refine W.endF 72 [(0, .agg #[.int .i64 m, .slice A n c]), (1, .slice A2 n2 c2), (2, .pointer (some ⟨b2, 0, none⟩)), (4, .bool false), (5, .int .i64 ((K : Nat) : Int)), (6, .pointer (some ⟨b37, 0, none⟩)), (7, .int .i64 (findL ps x27.pipe)), (15, .bool false), (16, .slice A2 n2 c2), (17, .int .i64 ((n2 : Nat) : Int)), (18, .int .i64 ((K : Nat) : Int)), (19, .bool true), (65, .bool false), (70, .bool true)] (fun U144 => ?_)
                    have x6 := SG.blk s142 x6 (by simp)
                    have x47 := SG.blk s142 x47 (by simp)
                    have c145 := (SG.belowR c138 s142 (fun kq e => by cases e))
                    refine h24 _ _ ?_
                    refine wp_cond_true (by kernel_rfl) ?_
                    refine wp_seq_k (fun K25 h25 => ?_)
                    refine W.region_quiet [(0, false)] (by kernel_rfl) ?_
                    refine W.as (v := .bool false) (h := ?_)
                    refine W.endF 72 [(0, .agg #[.int .i64 m, .slice A n c]), (1, .slice A2 n2 c2), (2, .pointer (some ⟨b2, 0, none⟩)), (4, .bool false), (5, .int .i64 ((K : Nat) : Int)), (6, .pointer (some ⟨b37, 0, none⟩)), (7, .int .i64 (findL ps x27.pipe)), (15, .bool false), (16, .slice A2 n2 c2), (17, .int .i64 ((n2 : Nat) : Int)), (18, .int .i64 ((K : Nat) : Int)), (19, .bool true), (65, .bool false), (70, .bool true)] (fun U146 => ?_)
                    refine h25 _ _ ?_
                    refine wp_ret ?_
                    try simp only [Exit.then, Exit.inBlock]
                    refine ret1 (v := .bool false) rfl (by kernel_rfl) ?_
                    have e8 : okV ps vs (K) = false := Bool.eq_false_iff.2 (fun h9 => by
                      have h8 := (okV_iff hx28).1 h9
                      obtain ⟨⟨hA, hB⟩, hC, hD⟩ := h8
                      obtain ⟨hC0, p9, hp9, hC1⟩ := endAt_pos hC
                      have hg9 := (good_of q15).at hp9
                      have h7 := (other_zero (u := x27.node) hg9.2.1.1 hg9.2.2.1.1)
                      obtain rfl := Option.some.inj (hp9.symm.trans hpz)
                      exact absurd (show placed (vs.take (K)) x27.pipe x27.node = true from q143) (by rw [hD]; simp))
                    exact ⟨ret_bool (goodV_bad (k := K) (by omega) e8).symm, c145⟩
                  · rw [q143]
                    refine W.endF 72 [(0, .agg #[.int .i64 m, .slice A n c]), (1, .slice A2 n2 c2), (2, .pointer (some ⟨b2, 0, none⟩)), (4, .bool false), (5, .int .i64 ((K : Nat) : Int)), (6, .pointer (some ⟨b37, 0, none⟩)), (7, .int .i64 (findL ps x27.pipe)), (15, .bool false), (16, .slice A2 n2 c2), (17, .int .i64 ((n2 : Nat) : Int)), (18, .int .i64 ((K : Nat) : Int)), (19, .bool true), (65, .bool false), (70, .bool false)] (fun U147 => ?_)
                    have x6 := SG.blk s142 x6 (by simp)
                    have x47 := SG.blk s142 x47 (by simp)
                    have c148 := (SG.belowR c138 s142 (fun kq e => by cases e))
                    refine h24 _ _ ?_
                    refine wp_cond_false (by kernel_rfl) ?_
                    refine wp_skip ?_
                    refine h10 _ _ ?_
                    refine W.region_quiet [(0, false), (1, false)] (by kernel_rfl) ?_
                    refine W.q (v := .int .i64 ((K + 1 : Nat) : Int)) (hr := (r_add (m := ((K : Nat) : Int)) (n := 1) (z := ((K + 1 : Nat) : Int)) rfl (by kernel_rfl) (by kernel_rfl) (by omega) (by omega))) (h := ?_)
                    refine W.mv (v := .int .i64 ((K + 1 : Nat) : Int)) (h := ?_)
                    refine W.endF 72 [(0, .agg #[.int .i64 m, .slice A n c]), (1, .slice A2 n2 c2), (2, .pointer (some ⟨b2, 0, none⟩)), (4, .bool false), (5, .int .i64 ((K : Nat) : Int)), (6, .pointer (some ⟨b37, 0, none⟩)), (7, .int .i64 (findL ps x27.pipe)), (15, .bool false), (16, .slice A2 n2 c2), (17, .int .i64 ((n2 : Nat) : Int)), (18, .int .i64 ((K + 1 : Nat) : Int)), (19, .bool true), (65, .bool false), (70, .bool false)] (fun U149 => ?_)
                    exact h7 _ _ _ (by omega : (n2 - (K + 1)) < _) ⟨K + 1, (fun iU9 => lk [(0, .agg #[.int .i64 m, .slice A n c]), (1, .slice A2 n2 c2), (2, .pointer (some ⟨b2, 0, none⟩)), (4, .bool false), (5, .int .i64 ((K : Nat) : Int)), (6, .pointer (some ⟨b37, 0, none⟩)), (7, .int .i64 (findL ps x27.pipe)), (15, .bool false), (16, .slice A2 n2 c2), (17, .int .i64 ((n2 : Nat) : Int)), (18, .int .i64 ((K + 1 : Nat) : Int)), (19, .bool true), (65, .bool false), (70, .bool false)] iU9 (U149 iU9)), (by kernel_rfl), rfl, (by omega), (okVTo_next hok ((okV_iff hx28).2 ⟨⟨inB_iff.1 q62, (by have e0 : K = 0 := (by omega); subst e0; exact above_zero)⟩, endAt_of (by omega) hpz (by have h9 := (other_zero (u := x27.node) hgz.2.1.1 hgz.2.2.1.1); omega), q143⟩)), x6, c148⟩
        · rw [q62]
          refine W.q (v := .bool true) (hr := (r_not (b := false) rfl (by kernel_rfl) rfl)) (h := ?_)
          refine W.mv (v := .bool true) (h := ?_)
          refine W.sp s59 (h := ?_)
          refine W.sp s59 (h := ?_)
          refine W.sp s59 (h := ?_)
          refine W.sp s59 (h := ?_)
          refine W.sp s59 (h := ?_)
          refine W.sp s59 (h := ?_)
          refine W.sp s59 (h := ?_)
          refine W.sp s59 (h := ?_)
          refine W.sp s59 (h := ?_)
          refine W.sp s59 (h := ?_)
          refine W.sp s59 (h := ?_)
          refine W.sp s59 (h := ?_)
          refine W.sp s59 (h := ?_)
          refine W.q (v := .bool true) (hr := (r_pick (b := true) rfl (by kernel_rfl) (by kernel_rfl))) (h := ?_)
          refine W.mv (v := .bool true) (h := ?_)
          refine W.sp s59 (h := ?_)
          refine W.sp s59 (h := ?_)
          refine W.q (v := .bool true) (hr := (r_pick (b := true) rfl (by kernel_rfl) (by kernel_rfl))) (h := ?_)
          refine W.mv (v := .bool true) (h := ?_)
          refine W.sp s59 (h := ?_)
          refine W.sp s59 (h := ?_)
          refine W.sp s59 (h := ?_)
          refine W.q (v := .bool true) (hr := (r_pick (b := true) rfl (by kernel_rfl) (by kernel_rfl))) (h := ?_)
          refine W.mv (v := .bool true) (h := ?_)
          refine W.sp s59 (h := ?_)
          refine W.sp s59 (h := ?_)
          refine W.sp s59 (h := ?_)
          refine W.sp s59 (h := ?_)
          refine W.sp s59 (h := ?_)
          refine W.sp s59 (h := ?_)
          refine W.sp s59 (h := ?_)
          refine W.sp s59 (h := ?_)
          refine W.sp s59 (h := ?_)
          refine W.q (v := .bool true) (hr := (r_pick (b := true) rfl (by kernel_rfl) (by kernel_rfl))) (h := ?_)
          refine W.endF 72 [(0, .agg #[.int .i64 m, .slice A n c]), (1, .slice A2 n2 c2), (2, .pointer (some ⟨b2, 0, none⟩)), (4, .bool false), (5, .int .i64 ((K : Nat) : Int)), (6, .pointer (some ⟨b37, 0, none⟩)), (7, .int .i64 (findL ps x27.pipe)), (15, .bool false), (16, .slice A2 n2 c2), (17, .int .i64 ((n2 : Nat) : Int)), (18, .int .i64 ((K : Nat) : Int)), (19, .bool true), (65, .bool true)] (fun U150 => ?_)
          have x6 := SG.blk s59 x6 (by simp)
          have x47 := SG.blk s59 x47 (by simp)
          have c151 := (SG.belowR c56 s59 (fun kq e => by cases e))
          refine h14 _ _ ?_
          refine wp_cond_true (by kernel_rfl) ?_
          refine wp_seq_k (fun K26 h26 => ?_)
          refine W.region_quiet [(0, false)] (by kernel_rfl) ?_
          refine W.as (v := .bool false) (h := ?_)
          refine W.endF 72 [(0, .agg #[.int .i64 m, .slice A n c]), (1, .slice A2 n2 c2), (2, .pointer (some ⟨b2, 0, none⟩)), (4, .bool false), (5, .int .i64 ((K : Nat) : Int)), (6, .pointer (some ⟨b37, 0, none⟩)), (7, .int .i64 (findL ps x27.pipe)), (15, .bool false), (16, .slice A2 n2 c2), (17, .int .i64 ((n2 : Nat) : Int)), (18, .int .i64 ((K : Nat) : Int)), (19, .bool true), (65, .bool true)] (fun U152 => ?_)
          refine h26 _ _ ?_
          refine wp_ret ?_
          try simp only [Exit.then, Exit.inBlock]
          refine ret1 (v := .bool false) rfl (by kernel_rfl) ?_
          have e8 : okV ps vs (K) = false := Bool.eq_false_iff.2 (fun h9 => by
            have h8 := (okV_iff hx28).1 h9
            obtain ⟨⟨hA, hB⟩, hC, hD⟩ := h8
            obtain ⟨hC0, p9, hp9, hC1⟩ := endAt_pos hC
            have hg9 := (good_of q15).at hp9
            have h7 := (other_zero (u := x27.node) hg9.2.1.1 hg9.2.2.1.1)
            first | omega | (rw [inB_iff.2 hA] at q62; cases q62))
          exact ⟨ret_bool (goodV_bad (k := K) (by omega) e8).symm, c151⟩
      · refine W.q (v := .bool false) (hr := (r_lss (m := ((K : Nat) : Int)) (n := ((n2 : Nat) : Int)) rfl (by kernel_rfl) (by kernel_rfl) (decide_eq_false q24))) (h := ?_)
        refine W.endF 72 [(0, .agg #[.int .i64 m, .slice A n c]), (1, .slice A2 n2 c2), (2, .pointer (some ⟨b2, 0, none⟩)), (4, .bool false), (15, .bool false), (16, .slice A2 n2 c2), (17, .int .i64 ((n2 : Nat) : Int)), (18, .int .i64 ((K : Nat) : Int)), (19, .bool false)] (fun U153 => ?_)
        refine h8 _ _ ?_
        refine wp_seq_k (fun K27 h27 => ?_)
        refine wp_cond_false (by kernel_rfl) ?_
        refine wp_exit ?_
        refine h5 _ _ ?_
        refine wp_seq_k (fun K28 h28 => ?_)
        refine W.region_quiet [(0, false)] (by kernel_rfl) ?_
        refine W.as (v := .bool true) (h := ?_)
        refine W.endF 72 [(0, .agg #[.int .i64 m, .slice A n c]), (1, .slice A2 n2 c2), (2, .pointer (some ⟨b2, 0, none⟩)), (4, .bool true), (15, .bool false), (16, .slice A2 n2 c2), (17, .int .i64 ((n2 : Nat) : Int)), (18, .int .i64 ((K : Nat) : Int)), (19, .bool false)] (fun U154 => ?_)
        refine h28 _ _ ?_
        refine wp_ret ?_
        try simp only [Exit.then]
        refine ret1 (v := .bool true) rfl (by kernel_rfl) ?_
        exact ⟨ret_bool (goodV_fin q15 (by omega) (by rw [show vs.length = K by omega]; exact hok)).symm, c23⟩
  · rw [q15]
    refine W.q (v := .bool true) (hr := (r_not (b := false) rfl (by kernel_rfl) rfl)) (h := ?_)
    refine W.mv (v := .bool true) (h := ?_)
    refine W.sp s14 (h := ?_)
    refine W.sp s14 (h := ?_)
    refine W.sp s14 (h := ?_)
    refine W.q (v := .bool true) (hr := (r_pick (b := true) rfl (by kernel_rfl) (by kernel_rfl))) (h := ?_)
    refine W.endF 72 [(0, .agg #[.int .i64 m, .slice A n c]), (1, .slice A2 n2 c2), (2, .pointer (some ⟨b2, 0, none⟩)), (4, .bool false), (15, .bool true)] (fun U155 => ?_)
    have x6 := SG.blk s14 x6 (by simp)
    have c156 := (SG.belowR c10 s14 (fun kq e => by cases e))
    refine h3 _ _ ?_
    refine wp_cond_true (by kernel_rfl) ?_
    refine wp_seq_k (fun K29 h29 => ?_)
    refine W.region_quiet [(0, false)] (by kernel_rfl) ?_
    refine W.as (v := .bool false) (h := ?_)
    refine W.endF 72 [(0, .agg #[.int .i64 m, .slice A n c]), (1, .slice A2 n2 c2), (2, .pointer (some ⟨b2, 0, none⟩)), (4, .bool false), (15, .bool true)] (fun U157 => ?_)
    refine h29 _ _ ?_
    refine wp_ret ?_
    try simp only [Exit.then]
    refine ret1 (v := .bool false) rfl (by kernel_rfl) ?_
    exact ⟨ret_bool (goodV_out (.inl q15)).symm, c156⟩

end Go.Proofs.Ytnfmdkbelbppdaa
