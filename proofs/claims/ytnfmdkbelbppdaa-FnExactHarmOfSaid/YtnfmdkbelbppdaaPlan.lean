/- Plans and their harm: both packages answer alike. -/
import Derived.Test.YtnfmdkbelbppdaaPlanP
namespace Go.Proofs.Ytnfmdkbelbppdaa
open Go.RowKit
set_option linter.unusedVariables false
set_option linter.unusedSimpArgs false

set_option maxRecDepth 100000 in
set_option maxHeartbeats 1000000 in
theorem IsPlan_impl (m : Int) (A : Option Addr) (n c : Nat) (ps : List Pp) (A2 : Option Addr) (n2 c2 : Nat) (vs : List Vv) (s id : Int) (A3 : Option Addr) (n3 c3 : Nat) (pl : List Int) (w : World) (ha : Rd w 4 A n (pipesV ps)) (hb : Rd w 4 A2 n2 (valvesV vs)) (hp3 : Rd w 1 A3 n3 (intsV pl)) (hn : n ≤ 1048576) (hn2 : n2 ≤ 1048576) (hn3 : n3 ≤ 1048576) (hfm : Fm A n c) (hfm2 : Fm A2 n2 c2) (hfp : Fm A3 n3 c3) :
    Calls Try.prog 19 #[.agg #[.int .i64 m, .slice A n c], .slice A2 n2 c2, .int .i64 s, .int .i64 id, .slice A3 n3 c3] w fun e w' => e = .returned (.bool (IsPlan_v0 m ps vs s id pl)) ∧ Below w.heap.size w w' := by
  have hl := rd_pipes_len ha
  have hl2 := rd_valves_len hb
  have hl3 := rd_ints_len hp3
  go_enter Try.func19, Try.ntmps19
  refine wp_seq_k (fun K1 h1 => ?_)
  refine W.region_plain (row := none) [(0, true), (1, false)] (by kernel_rfl) ?_
  have s1 := SG.self w none
  refine W.sn (fun b => .pointer (some ⟨b, 0, none⟩)) #[.int .i64 m, .slice A n c] 32 s1 rfl (by kernel_rfl) rfl (fun _ => by kernel_rfl) (fun b2 w3 hb4 k5 x6 s7 => ?_)
  have lo8 : w.heap.size ≤ b2 := by have := ((SG.belowR (Below.refl _ _) s1 (fun kq e => by cases e))).size; omega
  refine W.sq (v := .bool false) rfl (r_assign rfl (by kernel_rfl)) (by kernel_rfl) rfl rfl ?_
  refine W.sch_end (l' := [.agg #[.int .i64 m, .slice A n c], .slice A2 n2 c2, .int .i64 s, .int .i64 id, .slice A3 n3 c3, .pointer (some ⟨b2, 0, none⟩), undef, undef, undef, undef, .bool false, undef, undef, undef, undef, undef, undef, undef, undef, undef, undef, undef, undef, undef, undef, undef, undef, undef, undef, undef, undef, undef, undef, undef, undef, undef, undef, undef, undef, undef, undef, undef, undef, undef, undef, undef, undef, undef, undef, undef]) (by kernel_rfl) ?_
  have c9 := (SG.belowR (Below.refl _ _) s7 (fun kq e => by cases e))
  refine h1 _ _ ?_
  refine wp_seq_k (fun K2 h2 => ?_)
  refine wp_seq_k (fun K3 h3 => ?_)
  refine W.region_plain (row := none) [(0, false), (1, false), (2, false), (3, false), (4, true), (5, false), (6, false), (7, false), (8, true), (9, false), (10, false)] (by kernel_rfl) ?_
  have s10 := SG.self w3 none
  refine W.sq (v := .agg #[.int .i64 m, .slice A n c]) rfl (r_load2 rfl (by kernel_rfl) (by kernel_rfl) (by kernel_rfl) (sgS (blk_cell (j := 0) x6 (by kernel_rfl)) (by simp)) (sgS (blk_cell (j := 1) x6 (by kernel_rfl)) (by simp))) (by kernel_rfl) rfl rfl ?_
  refine W.sq (v := .slice A2 n2 c2) rfl (r_move rfl (by kernel_rfl)) (by kernel_rfl) rfl rfl ?_
  refine W.sq (v := .int .i64 s) rfl (r_move rfl (by kernel_rfl)) (by kernel_rfl) rfl rfl ?_
  refine W.sq (v := .int .i64 id) rfl (r_move rfl (by kernel_rfl)) (by kernel_rfl) rfl rfl ?_
  refine W.sc (vs := [.agg #[.int .i64 m, .slice A n c], .slice A2 n2 c2, .int .i64 s, .int .i64 id]) rfl rfl (by kernel_rfl) (by kernel_rfl) (by kernel_rfl) rfl (canBurst_any m A n c ps A2 n2 c2 vs s id _ (Rd.kept ha (SG.belowR c9 s10 (fun kq e => by cases e))) (Rd.kept hb (SG.belowR c9 s10 (fun kq e => by cases e))) (by omega) (by omega) hfm2) ?_
  rintro e w12 ⟨rfl, b11⟩
  have s13 := SG.of_below s10 b11
  refine ⟨_, rfl, s13, ?_⟩
  rcases Bool.eq_false_or_eq_true (canB m ps vs s id) with q14 | q14
  · rw [q14]
    obtain ⟨hv9, hs, hfa⟩ := canB_of q14
    have hg := hv9.net
    have hgl := hg.lo
    have hgh := hg.hi
    have hp := hg.pipesIn
    have hlen10 := hg.len
    have hu := hv9.uniq
    have hvl := hv9.len
    refine W.sq (v := .bool false) rfl (r_not (b := true) rfl (by kernel_rfl) rfl) (by kernel_rfl) rfl rfl ?_
    refine W.sq (v := .bool false) rfl (r_move rfl (by kernel_rfl)) (by kernel_rfl) rfl rfl ?_
    refine W.sq (v := .slice A3 n3 c3) rfl (r_move rfl (by kernel_rfl)) (by kernel_rfl) rfl rfl ?_
    refine W.sc (vs := [.slice A3 n3 c3, .int .i64 1, .int .i64 99]) rfl rfl (by kernel_rfl) (by kernel_rfl) (by kernel_rfl) rfl (ascending_any A3 n3 c3 pl 1 99 _ (Rd.kept hp3 (SG.belowR c9 s13 (fun kq e => by cases e))) (by omega)) ?_
    rintro e w16 ⟨rfl, b15⟩
    have s17 := SG.of_below s13 b15
    refine ⟨_, rfl, s17, ?_⟩
    rcases Bool.eq_false_or_eq_true (riseL 1 99 pl) with q18 | q18
    · rw [q18]
      have hrl := riseL_len q18
      refine W.sq (v := .bool false) rfl (r_not (b := true) rfl (by kernel_rfl) rfl) (by kernel_rfl) rfl rfl ?_
      refine W.sq (v := .bool false) rfl (r_pick (b := false) rfl (by kernel_rfl) (by kernel_rfl)) (by kernel_rfl) rfl rfl ?_
      refine W.sch_endU (fun U19 => [.agg #[.int .i64 m, .slice A n c], .slice A2 n2 c2, .int .i64 s, .int .i64 id, .slice A3 n3 c3, .pointer (some ⟨b2, 0, none⟩), undef, undef, undef, undef, .bool false, undef, undef, undef, U19 14, U19 15, U19 16, U19 17, U19 18, U19 19, U19 20, U19 21, U19 22, U19 23, .bool false, undef, undef, undef, undef, undef, undef, undef, undef, undef, undef, undef, undef, undef, undef, undef, undef, undef, undef, undef, undef, undef, undef, undef, undef, undef]) (by kernel_rfl) (fun U19 => ?_)
      have x6 := SG.blk s17 x6 (by simp)
      have c20 := (SG.belowR c9 s17 (fun kq e => by cases e))
      refine h3 _ _ ?_
      refine wp_cond_false (by kernel_rfl) ?_
      refine wp_skip ?_
      refine h2 _ _ ?_
      refine wp_seq_k (fun K4 h4 => ?_)
      refine wp_seq_k (fun K5 h5 => ?_)
      refine W.region_quiet [(0, false), (1, false), (2, false)] (by kernel_rfl) ?_
      refine W.sq (v := .slice A3 n3 c3) rfl (r_move rfl (by kernel_rfl)) (by kernel_rfl) rfl rfl ?_
      refine W.sq (v := .int .i64 ((n3 : Nat) : Int)) rfl (r_len (A := A3) (n := n3) (c := c3) rfl (by kernel_rfl) (by kernel_rfl)) (by kernel_rfl) rfl rfl ?_
      refine W.sq (v := .int .i64 0) rfl (r_move rfl (by kernel_rfl)) (by kernel_rfl) rfl rfl ?_
      refine W.sch_end (l' := [.agg #[.int .i64 m, .slice A n c], .slice A2 n2 c2, .int .i64 s, .int .i64 id, .slice A3 n3 c3, .pointer (some ⟨b2, 0, none⟩), undef, undef, undef, undef, .bool false, undef, undef, undef, (U19 14), (U19 15), (U19 16), (U19 17), (U19 18), (U19 19), (U19 20), (U19 21), (U19 22), (U19 23), .bool false, .slice A3 n3 c3, .int .i64 ((n3 : Nat) : Int), .int .i64 0, undef, undef, undef, undef, undef, undef, undef, undef, undef, undef, undef, undef, undef, undef, undef, undef, undef, undef, undef, undef, undef, undef]) (by kernel_rfl) ?_
      refine h5 _ _ ?_
      refine wp_block ?_
      refine loopK (fun am0 aa0 wl0 => ∃ (k : Nat) (U0 : Nat → Value), aa0 = ⟨[.agg #[.int .i64 m, .slice A n c], .slice A2 n2 c2, .int .i64 s, .int .i64 id, .slice A3 n3 c3, .pointer (some ⟨b2, 0, none⟩), undef, undef, undef, undef, .bool false, undef, U0 12, U0 13, (U19 14), (U19 15), (U19 16), (U19 17), (U19 18), (U19 19), (U19 20), (U19 21), (U19 22), (U19 23), .bool false, .slice A3 n3 c3, .int .i64 ((n3 : Nat) : Int), .int .i64 ((k : Nat) : Int), U0 28, U0 29, U0 30, U0 31, U0 32, U0 33, U0 34, U0 35, U0 36, U0 37, U0 38, U0 39, U0 40, U0 41, U0 42, U0 43, undef, undef, undef, undef, undef, undef].toArray, []⟩ ∧ (am0 = n3 - k) ∧ (k ≤ n3) ∧ (∀ j z, j < k → pl[j]? = some z → (openIds vs).contains z = true) ∧ (wl0.heap[b2]? = some (.cells #[.int .i64 m, .slice A n c] 32 (0, 0))) ∧ (Below w.heap.size w wl0)) (n3 - 0) ?_ ?_
      · exact ⟨0, (fun iU9 => [.agg #[.int .i64 m, .slice A n c], .slice A2 n2 c2, .int .i64 s, .int .i64 id, .slice A3 n3 c3, .pointer (some ⟨b2, 0, none⟩), undef, undef, undef, undef, .bool false, undef, undef, undef, (U19 14), (U19 15), (U19 16), (U19 17), (U19 18), (U19 19), (U19 20), (U19 21), (U19 22), (U19 23), .bool false, .slice A3 n3 c3, .int .i64 ((n3 : Nat) : Int), .int .i64 0, undef, undef, undef, undef, undef, undef, undef, undef, undef, undef, undef, undef, undef, undef, undef, undef, undef, undef, undef, undef, undef, undef].getD iU9 undef), (by kernel_rfl), rfl, (Nat.zero_le _), (fun j z hj => absurd hj (by omega)), x6, c20⟩
      rintro am0 aa0 wl0 K6 h6 ⟨k, U0, rfl, rfl, hk, hall, x6, c21⟩
      refine wp_seq_k (fun K7 h7 => ?_)
      refine W.region_quiet [(0, false)] (by kernel_rfl) ?_
      by_cases q22 : (((k : Nat) : Int) : Int) < (((n3 : Nat) : Int) : Int)
      · refine W.sq (v := .bool true) rfl (r_lss (m := ((k : Nat) : Int)) (n := ((n3 : Nat) : Int)) rfl (by kernel_rfl) (by kernel_rfl) (decide_eq_true q22)) (by kernel_rfl) rfl rfl ?_
        refine W.sch_end (l' := [.agg #[.int .i64 m, .slice A n c], .slice A2 n2 c2, .int .i64 s, .int .i64 id, .slice A3 n3 c3, .pointer (some ⟨b2, 0, none⟩), undef, undef, undef, undef, .bool false, undef, (U0 12), (U0 13), (U19 14), (U19 15), (U19 16), (U19 17), (U19 18), (U19 19), (U19 20), (U19 21), (U19 22), (U19 23), .bool false, .slice A3 n3 c3, .int .i64 ((n3 : Nat) : Int), .int .i64 ((k : Nat) : Int), .bool true, (U0 29), (U0 30), (U0 31), (U0 32), (U0 33), (U0 34), (U0 35), (U0 36), (U0 37), (U0 38), (U0 39), (U0 40), (U0 41), (U0 42), (U0 43), undef, undef, undef, undef, undef, undef]) (by kernel_rfl) ?_
        refine h7 _ _ ?_
        refine wp_seq_k (fun K8 h8 => ?_)
        refine wp_cond_true (by kernel_rfl) ?_
        refine wp_skip ?_
        refine h8 _ _ ?_
        refine wp_seq_k (fun K9 h9 => ?_)
        refine wp_block ?_
        refine wp_seq_k (fun K10 h10 => ?_)
        refine W.region_quiet [(0, false), (1, false), (2, false)] (by kernel_rfl) ?_
        obtain ⟨x23, hx24⟩ := get_of (zs := pl) (k := k) (by have := hl3; omega)
        obtain ⟨b25, o26, hA27, hb28, hc29⟩ := Rd.elInt hp3 hx24
        refine W.sq (v := .pointer (some ⟨b25, o26 + k, none⟩)) rfl (r_idx1 (n := n3) (c := c3) (k := k) rfl (by kernel_rfl) hA27 (by kernel_rfl) (by kernel_rfl) (by have := hl3; omega)) (by kernel_rfl) rfl rfl ?_
        refine W.sq (v := .int .i64 x23) rfl (r_load rfl (by kernel_rfl) (by kernel_rfl) (eqS (later c21 hc29))) (by kernel_rfl) rfl rfl ?_
        refine W.sq (v := .int .i64 x23) rfl (r_assign rfl (by kernel_rfl)) (by kernel_rfl) rfl rfl ?_
        refine W.sch_endU (fun U30 => [.agg #[.int .i64 m, .slice A n c], .slice A2 n2 c2, .int .i64 s, .int .i64 id, .slice A3 n3 c3, .pointer (some ⟨b2, 0, none⟩), undef, undef, undef, undef, .bool false, undef, .int .i64 x23, (U0 13), (U19 14), (U19 15), (U19 16), (U19 17), (U19 18), (U19 19), (U19 20), (U19 21), (U19 22), (U19 23), .bool false, .slice A3 n3 c3, .int .i64 ((n3 : Nat) : Int), .int .i64 ((k : Nat) : Int), .bool true, U30 29, U30 30, (U0 31), (U0 32), (U0 33), (U0 34), (U0 35), (U0 36), (U0 37), (U0 38), (U0 39), (U0 40), (U0 41), (U0 42), (U0 43), undef, undef, undef, undef, undef, undef]) (by kernel_rfl) (fun U30 => ?_)
        refine h10 _ _ ?_
        refine wp_seq_k (fun K11 h11 => ?_)
        refine W.region_plain (row := none) [(0, false), (1, false), (2, true), (3, false)] (by kernel_rfl) ?_
        have s31 := SG.self wl0 none
        refine W.sq (v := .slice A2 n2 c2) rfl (r_move rfl (by kernel_rfl)) (by kernel_rfl) rfl rfl ?_
        refine W.sq (v := .int .i64 x23) rfl (r_move rfl (by kernel_rfl)) (by kernel_rfl) rfl rfl ?_
        refine W.sc (vs := [.slice A2 n2 c2, .int .i64 x23]) rfl rfl (by kernel_rfl) (by kernel_rfl) (by kernel_rfl) rfl (valveIndex_any A2 n2 c2 vs x23 _ (Rd.kept hb (SG.belowR c21 s31 (fun kq e => by cases e))) (by omega)) ?_
        rintro e w33 ⟨rfl, b32⟩
        have s34 := SG.of_below s31 b32
        refine ⟨_, rfl, s34, ?_⟩
        refine W.sq (v := .int .i64 (idxV (idQ x23) vs)) rfl (r_assign rfl (by kernel_rfl)) (by kernel_rfl) rfl rfl ?_
        refine W.sch_endU (fun U35 => [.agg #[.int .i64 m, .slice A n c], .slice A2 n2 c2, .int .i64 s, .int .i64 id, .slice A3 n3 c3, .pointer (some ⟨b2, 0, none⟩), undef, undef, undef, undef, .bool false, undef, .int .i64 x23, .int .i64 (idxV (idQ x23) vs), (U19 14), (U19 15), (U19 16), (U19 17), (U19 18), (U19 19), (U19 20), (U19 21), (U19 22), (U19 23), .bool false, .slice A3 n3 c3, .int .i64 ((n3 : Nat) : Int), .int .i64 ((k : Nat) : Int), .bool true, (U30 29), (U30 30), U35 31, U35 32, U35 33, (U0 34), (U0 35), (U0 36), (U0 37), (U0 38), (U0 39), (U0 40), (U0 41), (U0 42), (U0 43), undef, undef, undef, undef, undef, undef]) (by kernel_rfl) (fun U35 => ?_)
        have x6 := SG.blk s34 x6 (by simp)
        have c36 := (SG.belowR c21 s34 (fun kq e => by cases e))
        refine h11 _ _ ?_
        refine wp_seq_k (fun K12 h12 => ?_)
        refine W.region_quiet [(0, false), (1, false), (2, false), (3, false), (4, false), (5, false), (6, false), (7, false), (8, false)] (by kernel_rfl) ?_
        refine W.sq (v := .int .i64 (idxV (idQ x23) vs)) rfl (r_move rfl (by kernel_rfl)) (by kernel_rfl) rfl rfl ?_
        by_cases q37 : ((idxV (idQ x23) vs) : Int) < (0 : Int)
        · refine W.sq (v := .bool true) rfl (r_lss (m := (idxV (idQ x23) vs)) (n := 0) rfl (by kernel_rfl) (by kernel_rfl) (decide_eq_true q37)) (by kernel_rfl) rfl rfl ?_
          refine W.sq (v := .bool true) rfl (r_move rfl (by kernel_rfl)) (by kernel_rfl) rfl rfl ?_
          refine W.sk rfl rfl (by kernel_rfl) rfl rfl ?_
          refine W.sk rfl rfl (by kernel_rfl) rfl rfl ?_
          refine W.sk rfl rfl (by kernel_rfl) rfl rfl ?_
          refine W.sk rfl rfl (by kernel_rfl) rfl rfl ?_
          refine W.sk rfl rfl (by kernel_rfl) rfl rfl ?_
          refine W.sq (v := .bool true) rfl (r_pick (b := true) rfl (by kernel_rfl) (by kernel_rfl)) (by kernel_rfl) rfl rfl ?_
          refine W.sch_endU (fun U38 => [.agg #[.int .i64 m, .slice A n c], .slice A2 n2 c2, .int .i64 s, .int .i64 id, .slice A3 n3 c3, .pointer (some ⟨b2, 0, none⟩), undef, undef, undef, undef, .bool false, undef, .int .i64 x23, .int .i64 (idxV (idQ x23) vs), (U19 14), (U19 15), (U19 16), (U19 17), (U19 18), (U19 19), (U19 20), (U19 21), (U19 22), (U19 23), .bool false, .slice A3 n3 c3, .int .i64 ((n3 : Nat) : Int), .int .i64 ((k : Nat) : Int), .bool true, (U30 29), (U30 30), (U35 31), (U35 32), (U35 33), U38 34, U38 35, U38 36, undef, undef, undef, undef, undef, .bool true, (U0 43), undef, undef, undef, undef, undef, undef]) (by kernel_rfl) (fun U38 => ?_)
          refine h12 _ _ ?_
          refine wp_cond_true (by kernel_rfl) ?_
          refine wp_seq_k (fun K13 h13 => ?_)
          refine W.region_quiet [(0, false)] (by kernel_rfl) ?_
          refine W.sq (v := .bool false) rfl (r_assign rfl (by kernel_rfl)) (by kernel_rfl) rfl rfl ?_
          refine W.sch_end (l' := [.agg #[.int .i64 m, .slice A n c], .slice A2 n2 c2, .int .i64 s, .int .i64 id, .slice A3 n3 c3, .pointer (some ⟨b2, 0, none⟩), undef, undef, undef, undef, .bool false, undef, .int .i64 x23, .int .i64 (idxV (idQ x23) vs), (U19 14), (U19 15), (U19 16), (U19 17), (U19 18), (U19 19), (U19 20), (U19 21), (U19 22), (U19 23), .bool false, .slice A3 n3 c3, .int .i64 ((n3 : Nat) : Int), .int .i64 ((k : Nat) : Int), .bool true, (U30 29), (U30 30), (U35 31), (U35 32), (U35 33), (U38 34), (U38 35), (U38 36), undef, undef, undef, undef, undef, .bool true, (U0 43), undef, undef, undef, undef, undef, undef]) (by kernel_rfl) ?_
          refine h13 _ _ ?_
          refine wp_ret ?_
          try simp only [Exit.then, Exit.inBlock]
          refine ret1 (v := .bool false) rfl (by kernel_rfl) ?_
          have e8 := planAll_no (vs := vs) hx24 (open_none (vs := vs) (a := x23) (by omega))
          exact ⟨ret_bool (show false = IsPlan_v0 m ps vs s id pl from by unfold IsPlan_v0; rw [q14, q18, e8]; rfl), c36⟩
        · refine W.sq (v := .bool false) rfl (r_lss (m := (idxV (idQ x23) vs)) (n := 0) rfl (by kernel_rfl) (by kernel_rfl) (decide_eq_false q37)) (by kernel_rfl) rfl rfl ?_
          refine W.sq (v := .bool false) rfl (r_move rfl (by kernel_rfl)) (by kernel_rfl) rfl rfl ?_
          refine W.sq (v := .slice A2 n2 c2) rfl (r_move rfl (by kernel_rfl)) (by kernel_rfl) rfl rfl ?_
          refine W.sq (v := .int .i64 (idxV (idQ x23) vs)) rfl (r_move rfl (by kernel_rfl)) (by kernel_rfl) rfl rfl ?_
          obtain ⟨k9, x9, e9, hx9, hq9⟩ := idx_some (vs := vs) (q := idQ x23) (by omega)
          have hk9 := (List.getElem?_eq_some_iff.1 hx9).1
          obtain ⟨b39, o40, hA41, hb42, hc43, hc44, hc45, hc46⟩ := Rd.elValve hb hx9
          refine W.sq (v := .pointer (some ⟨b39, o40 + k9 * 4, none⟩)) rfl (r_idx (n := n2) (c := c2) (k := k9) rfl (by kernel_rfl) hA41 (evk (z := (idxV (idQ x23) vs)) (by kernel_rfl) e9) (by kernel_rfl) (by have := hl2; omega)) (by kernel_rfl) rfl rfl ?_
          refine W.sq (v := .pointer (some ⟨b39, o40 + k9 * 4 + 3, none⟩)) rfl (r_field (k := 3) rfl (by kernel_rfl) (by kernel_rfl)) (by kernel_rfl) rfl rfl ?_
          refine W.sq (v := .bool x9.shut) rfl (r_load rfl (by kernel_rfl) (by kernel_rfl) (eqS (later c36 hc46))) (by kernel_rfl) rfl rfl ?_
          refine W.sq (v := .bool x9.shut) rfl (r_pick (b := false) rfl (by kernel_rfl) (by kernel_rfl)) (by kernel_rfl) rfl rfl ?_
          refine W.sch_endU (fun U47 => [.agg #[.int .i64 m, .slice A n c], .slice A2 n2 c2, .int .i64 s, .int .i64 id, .slice A3 n3 c3, .pointer (some ⟨b2, 0, none⟩), undef, undef, undef, undef, .bool false, undef, .int .i64 x23, .int .i64 (idxV (idQ x23) vs), (U19 14), (U19 15), (U19 16), (U19 17), (U19 18), (U19 19), (U19 20), (U19 21), (U19 22), (U19 23), .bool false, .slice A3 n3 c3, .int .i64 ((n3 : Nat) : Int), .int .i64 ((k : Nat) : Int), .bool true, (U30 29), (U30 30), (U35 31), (U35 32), (U35 33), U47 34, U47 35, U47 36, U47 37, U47 38, U47 39, U47 40, U47 41, .bool x9.shut, (U0 43), undef, undef, undef, undef, undef, undef]) (by kernel_rfl) (fun U47 => ?_)
          refine h12 _ _ ?_
          rcases Bool.eq_false_or_eq_true x9.shut with q48 | q48
          · rw [q48]
            refine wp_cond_true (by kernel_rfl) ?_
            refine wp_seq_k (fun K14 h14 => ?_)
            refine W.region_quiet [(0, false)] (by kernel_rfl) ?_
            refine W.sq (v := .bool false) rfl (r_assign rfl (by kernel_rfl)) (by kernel_rfl) rfl rfl ?_
            refine W.sch_end (l' := [.agg #[.int .i64 m, .slice A n c], .slice A2 n2 c2, .int .i64 s, .int .i64 id, .slice A3 n3 c3, .pointer (some ⟨b2, 0, none⟩), undef, undef, undef, undef, .bool false, undef, .int .i64 x23, .int .i64 (idxV (idQ x23) vs), (U19 14), (U19 15), (U19 16), (U19 17), (U19 18), (U19 19), (U19 20), (U19 21), (U19 22), (U19 23), .bool false, .slice A3 n3 c3, .int .i64 ((n3 : Nat) : Int), .int .i64 ((k : Nat) : Int), .bool true, (U30 29), (U30 30), (U35 31), (U35 32), (U35 33), (U47 34), (U47 35), (U47 36), (U47 37), (U47 38), (U47 39), (U47 40), (U47 41), .bool true, (U0 43), undef, undef, undef, undef, undef, undef]) (by kernel_rfl) ?_
            refine h14 _ _ ?_
            refine wp_ret ?_
            try simp only [Exit.then, Exit.inBlock]
            refine ret1 (v := .bool false) rfl (by kernel_rfl) ?_
            have e8 := planAll_no (vs := vs) hx24 (by rw [open_first hv9 hx9 (of_decide_eq_true hq9), q48]; rfl)
            exact ⟨ret_bool (show false = IsPlan_v0 m ps vs s id pl from by unfold IsPlan_v0; rw [q14, q18, e8]; rfl), c36⟩
          · rw [q48]
            refine wp_cond_false (by kernel_rfl) ?_
            refine wp_skip ?_
            refine h9 _ _ ?_
            refine W.region_quiet [(0, false), (1, false)] (by kernel_rfl) ?_
            refine W.sq (v := .int .i64 ((k + 1 : Nat) : Int)) rfl (r_add (m := ((k : Nat) : Int)) (n := 1) (z := ((k + 1 : Nat) : Int)) rfl (by kernel_rfl) (by kernel_rfl) (by omega) (by omega)) (by kernel_rfl) rfl rfl ?_
            refine W.sq (v := .int .i64 ((k + 1 : Nat) : Int)) rfl (r_move rfl (by kernel_rfl)) (by kernel_rfl) rfl rfl ?_
            refine W.sch_endU (fun U49 => [.agg #[.int .i64 m, .slice A n c], .slice A2 n2 c2, .int .i64 s, .int .i64 id, .slice A3 n3 c3, .pointer (some ⟨b2, 0, none⟩), undef, undef, undef, undef, .bool false, undef, .int .i64 x23, .int .i64 (idxV (idQ x23) vs), (U19 14), (U19 15), (U19 16), (U19 17), (U19 18), (U19 19), (U19 20), (U19 21), (U19 22), (U19 23), .bool false, .slice A3 n3 c3, .int .i64 ((n3 : Nat) : Int), .int .i64 ((k + 1 : Nat) : Int), .bool true, (U30 29), (U30 30), (U35 31), (U35 32), (U35 33), (U47 34), (U47 35), (U47 36), (U47 37), (U47 38), (U47 39), (U47 40), (U47 41), .bool false, U49 43, undef, undef, undef, undef, undef, undef]) (by kernel_rfl) (fun U49 => ?_)
            exact h6 _ _ _ (by omega : (n3 - (k + 1)) < _) ⟨k + 1, (fun iU9 => [.agg #[.int .i64 m, .slice A n c], .slice A2 n2 c2, .int .i64 s, .int .i64 id, .slice A3 n3 c3, .pointer (some ⟨b2, 0, none⟩), undef, undef, undef, undef, .bool false, undef, .int .i64 x23, .int .i64 (idxV (idQ x23) vs), (U19 14), (U19 15), (U19 16), (U19 17), (U19 18), (U19 19), (U19 20), (U19 21), (U19 22), (U19 23), .bool false, .slice A3 n3 c3, .int .i64 ((n3 : Nat) : Int), .int .i64 ((k + 1 : Nat) : Int), .bool true, (U30 29), (U30 30), (U35 31), (U35 32), (U35 33), (U47 34), (U47 35), (U47 36), (U47 37), (U47 38), (U47 39), (U47 40), (U47 41), .bool false, (U49 43), undef, undef, undef, undef, undef, undef].getD iU9 undef), (by kernel_rfl), rfl, (by omega), (upto_succ (Q := fun z => (openIds vs).contains z = true) hall hx24 (by rw [open_first hv9 hx9 (of_decide_eq_true hq9), q48]; rfl)), x6, c36⟩
      · refine W.sq (v := .bool false) rfl (r_lss (m := ((k : Nat) : Int)) (n := ((n3 : Nat) : Int)) rfl (by kernel_rfl) (by kernel_rfl) (decide_eq_false q22)) (by kernel_rfl) rfl rfl ?_
        refine W.sch_end (l' := [.agg #[.int .i64 m, .slice A n c], .slice A2 n2 c2, .int .i64 s, .int .i64 id, .slice A3 n3 c3, .pointer (some ⟨b2, 0, none⟩), undef, undef, undef, undef, .bool false, undef, (U0 12), (U0 13), (U19 14), (U19 15), (U19 16), (U19 17), (U19 18), (U19 19), (U19 20), (U19 21), (U19 22), (U19 23), .bool false, .slice A3 n3 c3, .int .i64 ((n3 : Nat) : Int), .int .i64 ((k : Nat) : Int), .bool false, (U0 29), (U0 30), (U0 31), (U0 32), (U0 33), (U0 34), (U0 35), (U0 36), (U0 37), (U0 38), (U0 39), (U0 40), (U0 41), (U0 42), (U0 43), undef, undef, undef, undef, undef, undef]) (by kernel_rfl) ?_
        refine h7 _ _ ?_
        refine wp_seq_k (fun K15 h15 => ?_)
        refine wp_cond_false (by kernel_rfl) ?_
        refine wp_exit ?_
        refine h4 _ _ ?_
        refine wp_seq_k (fun K16 h16 => ?_)
        refine W.region_plain (row := none) [(0, false), (1, false), (2, false), (3, false), (4, false), (5, true), (6, false)] (by kernel_rfl) ?_
        have s50 := SG.self wl0 none
        refine W.sq (v := .agg #[.int .i64 m, .slice A n c]) rfl (r_load2 rfl (by kernel_rfl) (by kernel_rfl) (by kernel_rfl) (sgS (blk_cell (j := 0) x6 (by kernel_rfl)) (by simp)) (sgS (blk_cell (j := 1) x6 (by kernel_rfl)) (by simp))) (by kernel_rfl) rfl rfl ?_
        refine W.sq (v := .slice A2 n2 c2) rfl (r_move rfl (by kernel_rfl)) (by kernel_rfl) rfl rfl ?_
        refine W.sq (v := .int .i64 s) rfl (r_move rfl (by kernel_rfl)) (by kernel_rfl) rfl rfl ?_
        refine W.sq (v := .int .i64 id) rfl (r_move rfl (by kernel_rfl)) (by kernel_rfl) rfl rfl ?_
        refine W.sq (v := .slice A3 n3 c3) rfl (r_move rfl (by kernel_rfl)) (by kernel_rfl) rfl rfl ?_
        refine W.sc (vs := [.agg #[.int .i64 m, .slice A n c], .slice A2 n2 c2, .int .i64 s, .int .i64 id, .slice A3 n3 c3]) rfl rfl (by kernel_rfl) (by kernel_rfl) (by kernel_rfl) rfl (isolates_any m A n c ps A2 n2 c2 vs s id A3 n3 c3 pl _ (Rd.kept ha (SG.belowR c21 s50 (fun kq e => by cases e))) (Rd.kept hb (SG.belowR c21 s50 (fun kq e => by cases e))) (by omega) (by omega) hfm2 hv9 hs hfa (Rd.kept hp3 (SG.belowR c21 s50 (fun kq e => by cases e))) (by omega)) ?_
        rintro e w52 ⟨rfl, b51⟩
        have s53 := SG.of_below s50 b51
        refine ⟨_, rfl, s53, ?_⟩
        rcases Bool.eq_false_or_eq_true (cutB ps vs s id pl) with q54 | q54
        · rw [q54]
          refine W.sq (v := .bool true) rfl (r_assign rfl (by kernel_rfl)) (by kernel_rfl) rfl rfl ?_
          refine W.sch_endU (fun U55 => [.agg #[.int .i64 m, .slice A n c], .slice A2 n2 c2, .int .i64 s, .int .i64 id, .slice A3 n3 c3, .pointer (some ⟨b2, 0, none⟩), undef, undef, undef, undef, .bool true, undef, (U0 12), (U0 13), (U19 14), (U19 15), (U19 16), (U19 17), (U19 18), (U19 19), (U19 20), (U19 21), (U19 22), (U19 23), .bool false, .slice A3 n3 c3, .int .i64 ((n3 : Nat) : Int), .int .i64 ((k : Nat) : Int), .bool false, (U0 29), (U0 30), (U0 31), (U0 32), (U0 33), (U0 34), (U0 35), (U0 36), (U0 37), (U0 38), (U0 39), (U0 40), (U0 41), (U0 42), (U0 43), U55 44, U55 45, U55 46, U55 47, U55 48, U55 49]) (by kernel_rfl) (fun U55 => ?_)
          have x6 := SG.blk s53 x6 (by simp)
          have c56 := (SG.belowR c21 s53 (fun kq e => by cases e))
          refine h16 _ _ ?_
          refine wp_ret ?_
          try simp only [Exit.then]
          refine ret1 (v := .bool true) rfl (by kernel_rfl) ?_
          have e8 := planAll_yes (vs := vs) hl3 hall (by omega)
          exact ⟨ret_bool (show true = IsPlan_v0 m ps vs s id pl from by unfold IsPlan_v0; rw [q14, q18, e8, q54]; rfl), c56⟩
        · rw [q54]
          refine W.sq (v := .bool false) rfl (r_assign rfl (by kernel_rfl)) (by kernel_rfl) rfl rfl ?_
          refine W.sch_endU (fun U57 => [.agg #[.int .i64 m, .slice A n c], .slice A2 n2 c2, .int .i64 s, .int .i64 id, .slice A3 n3 c3, .pointer (some ⟨b2, 0, none⟩), undef, undef, undef, undef, .bool false, undef, (U0 12), (U0 13), (U19 14), (U19 15), (U19 16), (U19 17), (U19 18), (U19 19), (U19 20), (U19 21), (U19 22), (U19 23), .bool false, .slice A3 n3 c3, .int .i64 ((n3 : Nat) : Int), .int .i64 ((k : Nat) : Int), .bool false, (U0 29), (U0 30), (U0 31), (U0 32), (U0 33), (U0 34), (U0 35), (U0 36), (U0 37), (U0 38), (U0 39), (U0 40), (U0 41), (U0 42), (U0 43), U57 44, U57 45, U57 46, U57 47, U57 48, U57 49]) (by kernel_rfl) (fun U57 => ?_)
          have x6 := SG.blk s53 x6 (by simp)
          have c58 := (SG.belowR c21 s53 (fun kq e => by cases e))
          refine h16 _ _ ?_
          refine wp_ret ?_
          try simp only [Exit.then]
          refine ret1 (v := .bool false) rfl (by kernel_rfl) ?_
          have e8 := planAll_yes (vs := vs) hl3 hall (by omega)
          exact ⟨ret_bool (show false = IsPlan_v0 m ps vs s id pl from by unfold IsPlan_v0; rw [q14, q18, e8, q54]; rfl), c58⟩
    · rw [q18]
      refine W.sq (v := .bool true) rfl (r_not (b := false) rfl (by kernel_rfl) rfl) (by kernel_rfl) rfl rfl ?_
      refine W.sq (v := .bool true) rfl (r_pick (b := false) rfl (by kernel_rfl) (by kernel_rfl)) (by kernel_rfl) rfl rfl ?_
      refine W.sch_endU (fun U59 => [.agg #[.int .i64 m, .slice A n c], .slice A2 n2 c2, .int .i64 s, .int .i64 id, .slice A3 n3 c3, .pointer (some ⟨b2, 0, none⟩), undef, undef, undef, undef, .bool false, undef, undef, undef, U59 14, U59 15, U59 16, U59 17, U59 18, U59 19, U59 20, U59 21, U59 22, U59 23, .bool true, undef, undef, undef, undef, undef, undef, undef, undef, undef, undef, undef, undef, undef, undef, undef, undef, undef, undef, undef, undef, undef, undef, undef, undef, undef]) (by kernel_rfl) (fun U59 => ?_)
      have x6 := SG.blk s17 x6 (by simp)
      have c60 := (SG.belowR c9 s17 (fun kq e => by cases e))
      refine h3 _ _ ?_
      refine wp_cond_true (by kernel_rfl) ?_
      refine wp_seq_k (fun K17 h17 => ?_)
      refine W.region_quiet [(0, false)] (by kernel_rfl) ?_
      refine W.sq (v := .bool false) rfl (r_assign rfl (by kernel_rfl)) (by kernel_rfl) rfl rfl ?_
      refine W.sch_end (l' := [.agg #[.int .i64 m, .slice A n c], .slice A2 n2 c2, .int .i64 s, .int .i64 id, .slice A3 n3 c3, .pointer (some ⟨b2, 0, none⟩), undef, undef, undef, undef, .bool false, undef, undef, undef, (U59 14), (U59 15), (U59 16), (U59 17), (U59 18), (U59 19), (U59 20), (U59 21), (U59 22), (U59 23), .bool true, undef, undef, undef, undef, undef, undef, undef, undef, undef, undef, undef, undef, undef, undef, undef, undef, undef, undef, undef, undef, undef, undef, undef, undef, undef]) (by kernel_rfl) ?_
      refine h17 _ _ ?_
      refine wp_ret ?_
      try simp only [Exit.then]
      refine ret1 (v := .bool false) rfl (by kernel_rfl) ?_
      exact ⟨ret_bool (show false = IsPlan_v0 m ps vs s id pl from by unfold IsPlan_v0; rw [q14, q18]; rfl), c60⟩
  · rw [q14]
    refine W.sq (v := .bool true) rfl (r_not (b := false) rfl (by kernel_rfl) rfl) (by kernel_rfl) rfl rfl ?_
    refine W.sq (v := .bool true) rfl (r_move rfl (by kernel_rfl)) (by kernel_rfl) rfl rfl ?_
    refine W.sk s13 rfl (by kernel_rfl) rfl rfl ?_
    refine W.sk s13 rfl (by kernel_rfl) rfl rfl ?_
    refine W.sk s13 rfl (by kernel_rfl) rfl rfl ?_
    refine W.sq (v := .bool true) rfl (r_pick (b := true) rfl (by kernel_rfl) (by kernel_rfl)) (by kernel_rfl) rfl rfl ?_
    refine W.sch_endU (fun U61 => [.agg #[.int .i64 m, .slice A n c], .slice A2 n2 c2, .int .i64 s, .int .i64 id, .slice A3 n3 c3, .pointer (some ⟨b2, 0, none⟩), undef, undef, undef, undef, .bool false, undef, undef, undef, U61 14, U61 15, U61 16, U61 17, U61 18, U61 19, U61 20, undef, undef, undef, .bool true, undef, undef, undef, undef, undef, undef, undef, undef, undef, undef, undef, undef, undef, undef, undef, undef, undef, undef, undef, undef, undef, undef, undef, undef, undef]) (by kernel_rfl) (fun U61 => ?_)
    have x6 := SG.blk s13 x6 (by simp)
    have c62 := (SG.belowR c9 s13 (fun kq e => by cases e))
    refine h3 _ _ ?_
    refine wp_cond_true (by kernel_rfl) ?_
    refine wp_seq_k (fun K18 h18 => ?_)
    refine W.region_quiet [(0, false)] (by kernel_rfl) ?_
    refine W.sq (v := .bool false) rfl (r_assign rfl (by kernel_rfl)) (by kernel_rfl) rfl rfl ?_
    refine W.sch_end (l' := [.agg #[.int .i64 m, .slice A n c], .slice A2 n2 c2, .int .i64 s, .int .i64 id, .slice A3 n3 c3, .pointer (some ⟨b2, 0, none⟩), undef, undef, undef, undef, .bool false, undef, undef, undef, (U61 14), (U61 15), (U61 16), (U61 17), (U61 18), (U61 19), (U61 20), undef, undef, undef, .bool true, undef, undef, undef, undef, undef, undef, undef, undef, undef, undef, undef, undef, undef, undef, undef, undef, undef, undef, undef, undef, undef, undef, undef, undef, undef]) (by kernel_rfl) ?_
    refine h18 _ _ ?_
    refine wp_ret ?_
    try simp only [Exit.then]
    refine ret1 (v := .bool false) rfl (by kernel_rfl) ?_
    exact ⟨ret_bool (show false = IsPlan_v0 m ps vs s id pl from by unfold IsPlan_v0; rw [q14]; rfl), c62⟩

set_option maxRecDepth 100000 in
set_option maxHeartbeats 1000000 in
theorem l5Plan_any (m : Int) (A : Option Addr) (n c : Nat) (ps : List Pp) (A2 : Option Addr) (n2 c2 : Nat) (vs : List Vv) (s id : Int) (A3 : Option Addr) (n3 c3 : Nat) (pl : List Int) (w : World) (ha : Rd w 4 A n (pipesV ps)) (hb : Rd w 4 A2 n2 (valvesV vs)) (hp3 : Rd w 1 A3 n3 (intsV pl)) (hn : n ≤ 1048576) (hn2 : n2 ≤ 1048576) (hn3 : n3 ≤ 1048576) (hfm : Fm A n c) (hfm2 : Fm A2 n2 c2) (hfp : Fm A3 n3 c3) :
    Calls Try.prog 54 #[.agg #[.int .i64 m, .slice A n c], .slice A2 n2 c2, .int .i64 s, .int .i64 id, .slice A3 n3 c3] w fun e w' => e = .returned (.bool (IsPlan_v0 m ps vs s id pl)) ∧ Below w.heap.size w w' := by
  have hl := rd_pipes_len ha
  have hl2 := rd_valves_len hb
  have hl3 := rd_ints_len hp3
  go_enter Try.func54, Try.ntmps54
  refine wp_seq_k (fun K1 h1 => ?_)
  refine W.region_plain (row := none) [(0, true), (1, false)] (by kernel_rfl) ?_
  have s1 := SG.self w none
  refine W.sn (fun b => .pointer (some ⟨b, 0, none⟩)) #[.int .i64 m, .slice A n c] 32 s1 rfl (by kernel_rfl) rfl (fun _ => by kernel_rfl) (fun b2 w3 hb4 k5 x6 s7 => ?_)
  have lo8 : w.heap.size ≤ b2 := by have := ((SG.belowR (Below.refl _ _) s1 (fun kq e => by cases e))).size; omega
  refine W.sq (v := .bool false) rfl (r_assign rfl (by kernel_rfl)) (by kernel_rfl) rfl rfl ?_
  refine W.sch_end (l' := [.agg #[.int .i64 m, .slice A n c], .slice A2 n2 c2, .int .i64 s, .int .i64 id, .slice A3 n3 c3, .pointer (some ⟨b2, 0, none⟩), undef, undef, undef, undef, .bool false, undef, undef, undef, undef, undef, undef, undef, undef, undef, undef, undef, undef, undef, undef, undef, undef, undef, undef, undef, undef, undef, undef, undef, undef, undef, undef, undef, undef, undef, undef, undef, undef, undef, undef]) (by kernel_rfl) ?_
  have c9 := (SG.belowR (Below.refl _ _) s7 (fun kq e => by cases e))
  refine h1 _ _ ?_
  refine wp_seq_k (fun K2 h2 => ?_)
  refine wp_seq_k (fun K3 h3 => ?_)
  refine W.region_plain (row := none) [(0, false), (1, false), (2, false), (3, false), (4, true), (5, false), (6, false), (7, false), (8, true), (9, false), (10, false)] (by kernel_rfl) ?_
  have s10 := SG.self w3 none
  refine W.sq (v := .agg #[.int .i64 m, .slice A n c]) rfl (r_load2 rfl (by kernel_rfl) (by kernel_rfl) (by kernel_rfl) (sgS (blk_cell (j := 0) x6 (by kernel_rfl)) (by simp)) (sgS (blk_cell (j := 1) x6 (by kernel_rfl)) (by simp))) (by kernel_rfl) rfl rfl ?_
  refine W.sq (v := .slice A2 n2 c2) rfl (r_move rfl (by kernel_rfl)) (by kernel_rfl) rfl rfl ?_
  refine W.sq (v := .int .i64 s) rfl (r_move rfl (by kernel_rfl)) (by kernel_rfl) rfl rfl ?_
  refine W.sq (v := .int .i64 id) rfl (r_move rfl (by kernel_rfl)) (by kernel_rfl) rfl rfl ?_
  refine W.sc (vs := [.agg #[.int .i64 m, .slice A n c], .slice A2 n2 c2, .int .i64 s, .int .i64 id]) rfl rfl (by kernel_rfl) (by kernel_rfl) (by kernel_rfl) rfl (l5Asked_any m A n c ps A2 n2 c2 vs s id _ (Rd.kept ha (SG.belowR c9 s10 (fun kq e => by cases e))) (Rd.kept hb (SG.belowR c9 s10 (fun kq e => by cases e))) (by omega) (by omega) hfm2) ?_
  rintro e w12 ⟨rfl, b11⟩
  have s13 := SG.of_below s10 b11
  refine ⟨_, rfl, s13, ?_⟩
  rcases Bool.eq_false_or_eq_true (canB m ps vs s id) with q14 | q14
  · rw [q14]
    obtain ⟨hv9, hs, hfa⟩ := canB_of q14
    have hg := hv9.net
    have hgl := hg.lo
    have hgh := hg.hi
    have hp := hg.pipesIn
    have hlen10 := hg.len
    have hu := hv9.uniq
    have hvl := hv9.len
    refine W.sq (v := .bool false) rfl (r_not (b := true) rfl (by kernel_rfl) rfl) (by kernel_rfl) rfl rfl ?_
    refine W.sq (v := .bool false) rfl (r_move rfl (by kernel_rfl)) (by kernel_rfl) rfl rfl ?_
    refine W.sq (v := .slice A3 n3 c3) rfl (r_move rfl (by kernel_rfl)) (by kernel_rfl) rfl rfl ?_
    refine W.sc (vs := [.slice A3 n3 c3, .int .i64 1, .int .i64 99]) rfl rfl (by kernel_rfl) (by kernel_rfl) (by kernel_rfl) rfl (l1Rising_any A3 n3 c3 pl 1 99 _ (Rd.kept hp3 (SG.belowR c9 s13 (fun kq e => by cases e))) (by omega)) ?_
    rintro e w16 ⟨rfl, b15⟩
    have s17 := SG.of_below s13 b15
    refine ⟨_, rfl, s17, ?_⟩
    rcases Bool.eq_false_or_eq_true (riseL 1 99 pl) with q18 | q18
    · rw [q18]
      have hrl := riseL_len q18
      refine W.sq (v := .bool false) rfl (r_not (b := true) rfl (by kernel_rfl) rfl) (by kernel_rfl) rfl rfl ?_
      refine W.sq (v := .bool false) rfl (r_pick (b := false) rfl (by kernel_rfl) (by kernel_rfl)) (by kernel_rfl) rfl rfl ?_
      refine W.sch_endU (fun U19 => [.agg #[.int .i64 m, .slice A n c], .slice A2 n2 c2, .int .i64 s, .int .i64 id, .slice A3 n3 c3, .pointer (some ⟨b2, 0, none⟩), undef, undef, undef, undef, .bool false, undef, undef, U19 13, U19 14, U19 15, U19 16, U19 17, U19 18, U19 19, U19 20, U19 21, U19 22, .bool false, undef, undef, undef, undef, undef, undef, undef, undef, undef, undef, undef, undef, undef, undef, undef, undef, undef, undef, undef, undef, undef]) (by kernel_rfl) (fun U19 => ?_)
      have x6 := SG.blk s17 x6 (by simp)
      have c20 := (SG.belowR c9 s17 (fun kq e => by cases e))
      refine h3 _ _ ?_
      refine wp_cond_false (by kernel_rfl) ?_
      refine wp_skip ?_
      refine h2 _ _ ?_
      refine wp_seq_k (fun K4 h4 => ?_)
      refine W.region_plain (row := none) [(0, false), (1, true), (2, false)] (by kernel_rfl) ?_
      have s21 := SG.self w16 none
      refine W.sq (v := .slice A2 n2 c2) rfl (r_move rfl (by kernel_rfl)) (by kernel_rfl) rfl rfl ?_
      refine W.sc (vs := [.slice A2 n2 c2]) rfl rfl (by kernel_rfl) (by kernel_rfl) (by kernel_rfl) rfl (l5Open_any A2 n2 c2 vs _ (Rd.kept hb (SG.belowR c20 s21 (fun kq e => by cases e))) (by omega)) ?_
      rintro e w31 ⟨A22, n23, c24, rfl, ho25, b30⟩
      have s32 := SG.of_below s21 b30
      refine ⟨_, rfl, s32, ?_⟩
      have rd26 := own_rd ho25
      have fm29 := own_fm ho25
      have hl27 := rd_ints_len rd26
      have sp33 := sp_freshB (g := b2) ho25 (Nat.lt_of_lt_of_le (blk_lt x6) (World.grownBy.size s21))
      have := openIds_len vs
      refine W.sq (v := .slice A22 n23 c24) rfl (r_assign rfl (by kernel_rfl)) (by kernel_rfl) rfl rfl ?_
      refine W.sch_endU (fun U34 => [.agg #[.int .i64 m, .slice A n c], .slice A2 n2 c2, .int .i64 s, .int .i64 id, .slice A3 n3 c3, .pointer (some ⟨b2, 0, none⟩), undef, undef, undef, undef, .bool false, .slice A22 n23 c24, undef, (U19 13), (U19 14), (U19 15), (U19 16), (U19 17), (U19 18), (U19 19), (U19 20), (U19 21), (U19 22), .bool false, U34 24, U34 25, undef, undef, undef, undef, undef, undef, undef, undef, undef, undef, undef, undef, undef, undef, undef, undef, undef, undef, undef]) (by kernel_rfl) (fun U34 => ?_)
      have x6 := SG.blk s32 x6 (by simp)
      have c35 := (SG.belowR c20 s32 (fun kq e => by cases e))
      refine h4 _ _ ?_
      refine wp_seq_k (fun K5 h5 => ?_)
      refine wp_seq_k (fun K6 h6 => ?_)
      refine W.region_quiet [(0, false)] (by kernel_rfl) ?_
      refine W.sq (v := .int .i64 0) rfl (r_assign rfl (by kernel_rfl)) (by kernel_rfl) rfl rfl ?_
      refine W.sch_end (l' := [.agg #[.int .i64 m, .slice A n c], .slice A2 n2 c2, .int .i64 s, .int .i64 id, .slice A3 n3 c3, .pointer (some ⟨b2, 0, none⟩), undef, undef, undef, undef, .bool false, .slice A22 n23 c24, .int .i64 0, (U19 13), (U19 14), (U19 15), (U19 16), (U19 17), (U19 18), (U19 19), (U19 20), (U19 21), (U19 22), .bool false, (U34 24), (U34 25), undef, undef, undef, undef, undef, undef, undef, undef, undef, undef, undef, undef, undef, undef, undef, undef, undef, undef, undef]) (by kernel_rfl) ?_
      refine h6 _ _ ?_
      refine wp_block ?_
      refine loopK (fun am0 aa0 wl0 => ∃ (k : Nat) (U0 : Nat → Value), aa0 = ⟨[.agg #[.int .i64 m, .slice A n c], .slice A2 n2 c2, .int .i64 s, .int .i64 id, .slice A3 n3 c3, .pointer (some ⟨b2, 0, none⟩), undef, undef, undef, undef, .bool false, .slice A22 n23 c24, .int .i64 ((k : Nat) : Int), (U19 13), (U19 14), (U19 15), (U19 16), (U19 17), (U19 18), (U19 19), (U19 20), (U19 21), (U19 22), .bool false, (U34 24), (U34 25), U0 26, U0 27, U0 28, U0 29, U0 30, U0 31, U0 32, U0 33, U0 34, U0 35, U0 36, U0 37, U0 38, undef, undef, undef, undef, undef, undef].toArray, []⟩ ∧ (am0 = n3 - k) ∧ (k ≤ n3) ∧ (∀ j z, j < k → pl[j]? = some z → (openIds vs).contains z = true) ∧ (wl0.heap[b2]? = some (.cells #[.int .i64 m, .slice A n c] 32 (0, 0))) ∧ (Rd wl0 1 A22 n23 (intsV (openIds vs))) ∧ (Below w.heap.size w wl0)) (n3 - 0) ?_ ?_
      · exact ⟨0, (fun iU9 => [.agg #[.int .i64 m, .slice A n c], .slice A2 n2 c2, .int .i64 s, .int .i64 id, .slice A3 n3 c3, .pointer (some ⟨b2, 0, none⟩), undef, undef, undef, undef, .bool false, .slice A22 n23 c24, .int .i64 0, (U19 13), (U19 14), (U19 15), (U19 16), (U19 17), (U19 18), (U19 19), (U19 20), (U19 21), (U19 22), .bool false, (U34 24), (U34 25), undef, undef, undef, undef, undef, undef, undef, undef, undef, undef, undef, undef, undef, undef, undef, undef, undef, undef, undef].getD iU9 undef), (by kernel_rfl), rfl, (Nat.zero_le _), (fun j z hj => absurd hj (by omega)), x6, rd26, c35⟩
      rintro am0 aa0 wl0 K7 h7 ⟨k, U0, rfl, rfl, hk, hall, x6, rd0_11, c36⟩
      refine wp_seq_k (fun K8 h8 => ?_)
      refine wp_seq_k (fun K9 h9 => ?_)
      refine W.region_quiet [(0, false), (1, false), (2, false), (3, false)] (by kernel_rfl) ?_
      refine W.sq (v := .int .i64 ((k : Nat) : Int)) rfl (r_move rfl (by kernel_rfl)) (by kernel_rfl) rfl rfl ?_
      refine W.sq (v := .slice A3 n3 c3) rfl (r_move rfl (by kernel_rfl)) (by kernel_rfl) rfl rfl ?_
      refine W.sq (v := .int .i64 ((n3 : Nat) : Int)) rfl (r_len (A := A3) (n := n3) (c := c3) rfl (by kernel_rfl) (by kernel_rfl)) (by kernel_rfl) rfl rfl ?_
      by_cases q37 : (((k : Nat) : Int) : Int) < (((n3 : Nat) : Int) : Int)
      · refine W.sq (v := .bool true) rfl (r_lss (m := ((k : Nat) : Int)) (n := ((n3 : Nat) : Int)) rfl (by kernel_rfl) (by kernel_rfl) (decide_eq_true q37)) (by kernel_rfl) rfl rfl ?_
        refine W.sch_endU (fun U38 => [.agg #[.int .i64 m, .slice A n c], .slice A2 n2 c2, .int .i64 s, .int .i64 id, .slice A3 n3 c3, .pointer (some ⟨b2, 0, none⟩), undef, undef, undef, undef, .bool false, .slice A22 n23 c24, .int .i64 ((k : Nat) : Int), (U19 13), (U19 14), (U19 15), (U19 16), (U19 17), (U19 18), (U19 19), (U19 20), (U19 21), (U19 22), .bool false, (U34 24), (U34 25), U38 26, U38 27, U38 28, .bool true, (U0 30), (U0 31), (U0 32), (U0 33), (U0 34), (U0 35), (U0 36), (U0 37), (U0 38), undef, undef, undef, undef, undef, undef]) (by kernel_rfl) (fun U38 => ?_)
        refine h9 _ _ ?_
        refine wp_cond_true (by kernel_rfl) ?_
        refine wp_skip ?_
        refine h8 _ _ ?_
        refine wp_seq_k (fun K10 h10 => ?_)
        refine wp_block ?_
        refine wp_seq_k (fun K11 h11 => ?_)
        refine W.region_plain (row := none) [(0, false), (1, false), (2, false), (3, false), (4, false), (5, true), (6, false)] (by kernel_rfl) ?_
        have s39 := SG.self wl0 none
        refine W.sq (v := .slice A22 n23 c24) rfl (r_move rfl (by kernel_rfl)) (by kernel_rfl) rfl rfl ?_
        refine W.sq (v := .slice A3 n3 c3) rfl (r_move rfl (by kernel_rfl)) (by kernel_rfl) rfl rfl ?_
        refine W.sq (v := .int .i64 ((k : Nat) : Int)) rfl (r_move rfl (by kernel_rfl)) (by kernel_rfl) rfl rfl ?_
        obtain ⟨x40, hx41⟩ := get_of (zs := pl) (k := k) (by have := hl3; omega)
        obtain ⟨b42, o43, hA44, hb45, hc46⟩ := Rd.elInt hp3 hx41
        refine W.sq (v := .pointer (some ⟨b42, o43 + k, none⟩)) rfl (r_idx1 (n := n3) (c := c3) (k := k) rfl (by kernel_rfl) hA44 (by kernel_rfl) (by kernel_rfl) (by have := hl3; omega)) (by kernel_rfl) rfl rfl ?_
        refine W.sq (v := .int .i64 x40) rfl (r_load rfl (by kernel_rfl) (by kernel_rfl) (sgS (later c36 hc46) (by simp))) (by kernel_rfl) rfl rfl ?_
        refine W.sc (vs := [.slice A22 n23 c24, .int .i64 x40]) rfl rfl (by kernel_rfl) (by kernel_rfl) (by kernel_rfl) rfl (l1Has_any A22 n23 c24 (openIds vs) x40 _ (Rd.kept rd0_11 (SG.below s39)) (by omega)) ?_
        rintro e w48 ⟨rfl, b47⟩
        have s49 := SG.of_below s39 b47
        refine ⟨_, rfl, s49, ?_⟩
        rcases Bool.eq_false_or_eq_true ((openIds vs).contains x40) with q50 | q50
        · rw [q50]
          refine W.sq (v := .bool false) rfl (r_not (b := true) rfl (by kernel_rfl) rfl) (by kernel_rfl) rfl rfl ?_
          refine W.sch_endU (fun U51 => [.agg #[.int .i64 m, .slice A n c], .slice A2 n2 c2, .int .i64 s, .int .i64 id, .slice A3 n3 c3, .pointer (some ⟨b2, 0, none⟩), undef, undef, undef, undef, .bool false, .slice A22 n23 c24, .int .i64 ((k : Nat) : Int), (U19 13), (U19 14), (U19 15), (U19 16), (U19 17), (U19 18), (U19 19), (U19 20), (U19 21), (U19 22), .bool false, (U34 24), (U34 25), (U38 26), (U38 27), (U38 28), .bool true, (U0 30), (U0 31), U51 32, U51 33, U51 34, U51 35, U51 36, U51 37, .bool false, undef, undef, undef, undef, undef, undef]) (by kernel_rfl) (fun U51 => ?_)
          have x6 := SG.blk s49 x6 (by simp)
          have c52 := (SG.belowR c36 s49 (fun kq e => by cases e))
          have rd53 := Rd.kept rd0_11 (SG.below s49)
          refine h11 _ _ ?_
          refine wp_cond_false (by kernel_rfl) ?_
          refine wp_skip ?_
          refine h10 _ _ ?_
          refine W.region_quiet [(0, false), (1, false), (2, false)] (by kernel_rfl) ?_
          refine W.sq (v := .int .i64 ((k : Nat) : Int)) rfl (r_move rfl (by kernel_rfl)) (by kernel_rfl) rfl rfl ?_
          refine W.sq (v := .int .i64 ((k + 1 : Nat) : Int)) rfl (r_add (m := ((k : Nat) : Int)) (n := 1) (z := ((k + 1 : Nat) : Int)) rfl (by kernel_rfl) (by kernel_rfl) (by omega) (by omega)) (by kernel_rfl) rfl rfl ?_
          refine W.sq (v := .int .i64 ((k + 1 : Nat) : Int)) rfl (r_assign rfl (by kernel_rfl)) (by kernel_rfl) rfl rfl ?_
          refine W.sch_endU (fun U54 => [.agg #[.int .i64 m, .slice A n c], .slice A2 n2 c2, .int .i64 s, .int .i64 id, .slice A3 n3 c3, .pointer (some ⟨b2, 0, none⟩), undef, undef, undef, undef, .bool false, .slice A22 n23 c24, .int .i64 ((k + 1 : Nat) : Int), (U19 13), (U19 14), (U19 15), (U19 16), (U19 17), (U19 18), (U19 19), (U19 20), (U19 21), (U19 22), .bool false, (U34 24), (U34 25), (U38 26), (U38 27), (U38 28), .bool true, U54 30, U54 31, (U51 32), (U51 33), (U51 34), (U51 35), (U51 36), (U51 37), .bool false, undef, undef, undef, undef, undef, undef]) (by kernel_rfl) (fun U54 => ?_)
          exact h7 _ _ _ (by omega : (n3 - (k + 1)) < _) ⟨k + 1, (fun iU9 => [.agg #[.int .i64 m, .slice A n c], .slice A2 n2 c2, .int .i64 s, .int .i64 id, .slice A3 n3 c3, .pointer (some ⟨b2, 0, none⟩), undef, undef, undef, undef, .bool false, .slice A22 n23 c24, .int .i64 ((k + 1 : Nat) : Int), (U19 13), (U19 14), (U19 15), (U19 16), (U19 17), (U19 18), (U19 19), (U19 20), (U19 21), (U19 22), .bool false, (U34 24), (U34 25), (U38 26), (U38 27), (U38 28), .bool true, (U54 30), (U54 31), (U51 32), (U51 33), (U51 34), (U51 35), (U51 36), (U51 37), .bool false, undef, undef, undef, undef, undef, undef].getD iU9 undef), (by kernel_rfl), rfl, (by omega), (upto_succ (Q := fun z => (openIds vs).contains z = true) hall hx41 (q50)), x6, rd53, c52⟩
        · rw [q50]
          refine W.sq (v := .bool true) rfl (r_not (b := false) rfl (by kernel_rfl) rfl) (by kernel_rfl) rfl rfl ?_
          refine W.sch_endU (fun U55 => [.agg #[.int .i64 m, .slice A n c], .slice A2 n2 c2, .int .i64 s, .int .i64 id, .slice A3 n3 c3, .pointer (some ⟨b2, 0, none⟩), undef, undef, undef, undef, .bool false, .slice A22 n23 c24, .int .i64 ((k : Nat) : Int), (U19 13), (U19 14), (U19 15), (U19 16), (U19 17), (U19 18), (U19 19), (U19 20), (U19 21), (U19 22), .bool false, (U34 24), (U34 25), (U38 26), (U38 27), (U38 28), .bool true, (U0 30), (U0 31), U55 32, U55 33, U55 34, U55 35, U55 36, U55 37, .bool true, undef, undef, undef, undef, undef, undef]) (by kernel_rfl) (fun U55 => ?_)
          have x6 := SG.blk s49 x6 (by simp)
          have c56 := (SG.belowR c36 s49 (fun kq e => by cases e))
          have rd57 := Rd.kept rd0_11 (SG.below s49)
          refine h11 _ _ ?_
          refine wp_cond_true (by kernel_rfl) ?_
          refine wp_seq_k (fun K12 h12 => ?_)
          refine W.region_quiet [(0, false)] (by kernel_rfl) ?_
          refine W.sq (v := .bool false) rfl (r_assign rfl (by kernel_rfl)) (by kernel_rfl) rfl rfl ?_
          refine W.sch_end (l' := [.agg #[.int .i64 m, .slice A n c], .slice A2 n2 c2, .int .i64 s, .int .i64 id, .slice A3 n3 c3, .pointer (some ⟨b2, 0, none⟩), undef, undef, undef, undef, .bool false, .slice A22 n23 c24, .int .i64 ((k : Nat) : Int), (U19 13), (U19 14), (U19 15), (U19 16), (U19 17), (U19 18), (U19 19), (U19 20), (U19 21), (U19 22), .bool false, (U34 24), (U34 25), (U38 26), (U38 27), (U38 28), .bool true, (U0 30), (U0 31), (U55 32), (U55 33), (U55 34), (U55 35), (U55 36), (U55 37), .bool true, undef, undef, undef, undef, undef, undef]) (by kernel_rfl) ?_
          refine h12 _ _ ?_
          refine wp_ret ?_
          try simp only [Exit.then, Exit.inBlock]
          refine ret1 (v := .bool false) rfl (by kernel_rfl) ?_
          have e8 := planAll_no (vs := vs) hx41 (q50)
          exact ⟨ret_bool (show false = IsPlan_v0 m ps vs s id pl from by unfold IsPlan_v0; rw [q14, q18, e8]; rfl), c56⟩
      · refine W.sq (v := .bool false) rfl (r_lss (m := ((k : Nat) : Int)) (n := ((n3 : Nat) : Int)) rfl (by kernel_rfl) (by kernel_rfl) (decide_eq_false q37)) (by kernel_rfl) rfl rfl ?_
        refine W.sch_endU (fun U58 => [.agg #[.int .i64 m, .slice A n c], .slice A2 n2 c2, .int .i64 s, .int .i64 id, .slice A3 n3 c3, .pointer (some ⟨b2, 0, none⟩), undef, undef, undef, undef, .bool false, .slice A22 n23 c24, .int .i64 ((k : Nat) : Int), (U19 13), (U19 14), (U19 15), (U19 16), (U19 17), (U19 18), (U19 19), (U19 20), (U19 21), (U19 22), .bool false, (U34 24), (U34 25), U58 26, U58 27, U58 28, .bool false, (U0 30), (U0 31), (U0 32), (U0 33), (U0 34), (U0 35), (U0 36), (U0 37), (U0 38), undef, undef, undef, undef, undef, undef]) (by kernel_rfl) (fun U58 => ?_)
        refine h9 _ _ ?_
        refine wp_cond_false (by kernel_rfl) ?_
        refine wp_exit ?_
        refine h5 _ _ ?_
        refine wp_seq_k (fun K13 h13 => ?_)
        refine W.region_plain (row := none) [(0, false), (1, false), (2, false), (3, false), (4, false), (5, true), (6, false)] (by kernel_rfl) ?_
        have s59 := SG.self wl0 none
        refine W.sq (v := .agg #[.int .i64 m, .slice A n c]) rfl (r_load2 rfl (by kernel_rfl) (by kernel_rfl) (by kernel_rfl) (sgS (blk_cell (j := 0) x6 (by kernel_rfl)) (by simp)) (sgS (blk_cell (j := 1) x6 (by kernel_rfl)) (by simp))) (by kernel_rfl) rfl rfl ?_
        refine W.sq (v := .slice A2 n2 c2) rfl (r_move rfl (by kernel_rfl)) (by kernel_rfl) rfl rfl ?_
        refine W.sq (v := .int .i64 s) rfl (r_move rfl (by kernel_rfl)) (by kernel_rfl) rfl rfl ?_
        refine W.sq (v := .int .i64 id) rfl (r_move rfl (by kernel_rfl)) (by kernel_rfl) rfl rfl ?_
        refine W.sq (v := .slice A3 n3 c3) rfl (r_move rfl (by kernel_rfl)) (by kernel_rfl) rfl rfl ?_
        refine W.sc (vs := [.agg #[.int .i64 m, .slice A n c], .slice A2 n2 c2, .int .i64 s, .int .i64 id, .slice A3 n3 c3]) rfl rfl (by kernel_rfl) (by kernel_rfl) (by kernel_rfl) rfl (l5Cut_any m A n c ps A2 n2 c2 vs s id A3 n3 c3 pl _ (Rd.kept ha (SG.belowR c36 s59 (fun kq e => by cases e))) (Rd.kept hb (SG.belowR c36 s59 (fun kq e => by cases e))) (by omega) (by omega) hfm2 hv9 hs hfa (Rd.kept hp3 (SG.belowR c36 s59 (fun kq e => by cases e))) (by omega)) ?_
        rintro e w61 ⟨rfl, b60⟩
        have s62 := SG.of_below s59 b60
        refine ⟨_, rfl, s62, ?_⟩
        rcases Bool.eq_false_or_eq_true (cutB ps vs s id pl) with q63 | q63
        · rw [q63]
          refine W.sq (v := .bool true) rfl (r_assign rfl (by kernel_rfl)) (by kernel_rfl) rfl rfl ?_
          refine W.sch_endU (fun U64 => [.agg #[.int .i64 m, .slice A n c], .slice A2 n2 c2, .int .i64 s, .int .i64 id, .slice A3 n3 c3, .pointer (some ⟨b2, 0, none⟩), undef, undef, undef, undef, .bool true, .slice A22 n23 c24, .int .i64 ((k : Nat) : Int), (U19 13), (U19 14), (U19 15), (U19 16), (U19 17), (U19 18), (U19 19), (U19 20), (U19 21), (U19 22), .bool false, (U34 24), (U34 25), (U58 26), (U58 27), (U58 28), .bool false, (U0 30), (U0 31), (U0 32), (U0 33), (U0 34), (U0 35), (U0 36), (U0 37), (U0 38), U64 39, U64 40, U64 41, U64 42, U64 43, U64 44]) (by kernel_rfl) (fun U64 => ?_)
          have x6 := SG.blk s62 x6 (by simp)
          have c65 := (SG.belowR c36 s62 (fun kq e => by cases e))
          have rd66 := Rd.kept rd0_11 (SG.below s62)
          refine h13 _ _ ?_
          refine wp_ret ?_
          try simp only [Exit.then]
          refine ret1 (v := .bool true) rfl (by kernel_rfl) ?_
          have e8 := planAll_yes (vs := vs) hl3 hall (by omega)
          exact ⟨ret_bool (show true = IsPlan_v0 m ps vs s id pl from by unfold IsPlan_v0; rw [q14, q18, e8, q63]; rfl), c65⟩
        · rw [q63]
          refine W.sq (v := .bool false) rfl (r_assign rfl (by kernel_rfl)) (by kernel_rfl) rfl rfl ?_
          refine W.sch_endU (fun U67 => [.agg #[.int .i64 m, .slice A n c], .slice A2 n2 c2, .int .i64 s, .int .i64 id, .slice A3 n3 c3, .pointer (some ⟨b2, 0, none⟩), undef, undef, undef, undef, .bool false, .slice A22 n23 c24, .int .i64 ((k : Nat) : Int), (U19 13), (U19 14), (U19 15), (U19 16), (U19 17), (U19 18), (U19 19), (U19 20), (U19 21), (U19 22), .bool false, (U34 24), (U34 25), (U58 26), (U58 27), (U58 28), .bool false, (U0 30), (U0 31), (U0 32), (U0 33), (U0 34), (U0 35), (U0 36), (U0 37), (U0 38), U67 39, U67 40, U67 41, U67 42, U67 43, U67 44]) (by kernel_rfl) (fun U67 => ?_)
          have x6 := SG.blk s62 x6 (by simp)
          have c68 := (SG.belowR c36 s62 (fun kq e => by cases e))
          have rd69 := Rd.kept rd0_11 (SG.below s62)
          refine h13 _ _ ?_
          refine wp_ret ?_
          try simp only [Exit.then]
          refine ret1 (v := .bool false) rfl (by kernel_rfl) ?_
          have e8 := planAll_yes (vs := vs) hl3 hall (by omega)
          exact ⟨ret_bool (show false = IsPlan_v0 m ps vs s id pl from by unfold IsPlan_v0; rw [q14, q18, e8, q63]; rfl), c68⟩
    · rw [q18]
      refine W.sq (v := .bool true) rfl (r_not (b := false) rfl (by kernel_rfl) rfl) (by kernel_rfl) rfl rfl ?_
      refine W.sq (v := .bool true) rfl (r_pick (b := false) rfl (by kernel_rfl) (by kernel_rfl)) (by kernel_rfl) rfl rfl ?_
      refine W.sch_endU (fun U70 => [.agg #[.int .i64 m, .slice A n c], .slice A2 n2 c2, .int .i64 s, .int .i64 id, .slice A3 n3 c3, .pointer (some ⟨b2, 0, none⟩), undef, undef, undef, undef, .bool false, undef, undef, U70 13, U70 14, U70 15, U70 16, U70 17, U70 18, U70 19, U70 20, U70 21, U70 22, .bool true, undef, undef, undef, undef, undef, undef, undef, undef, undef, undef, undef, undef, undef, undef, undef, undef, undef, undef, undef, undef, undef]) (by kernel_rfl) (fun U70 => ?_)
      have x6 := SG.blk s17 x6 (by simp)
      have c71 := (SG.belowR c9 s17 (fun kq e => by cases e))
      refine h3 _ _ ?_
      refine wp_cond_true (by kernel_rfl) ?_
      refine wp_seq_k (fun K14 h14 => ?_)
      refine W.region_quiet [(0, false)] (by kernel_rfl) ?_
      refine W.sq (v := .bool false) rfl (r_assign rfl (by kernel_rfl)) (by kernel_rfl) rfl rfl ?_
      refine W.sch_end (l' := [.agg #[.int .i64 m, .slice A n c], .slice A2 n2 c2, .int .i64 s, .int .i64 id, .slice A3 n3 c3, .pointer (some ⟨b2, 0, none⟩), undef, undef, undef, undef, .bool false, undef, undef, (U70 13), (U70 14), (U70 15), (U70 16), (U70 17), (U70 18), (U70 19), (U70 20), (U70 21), (U70 22), .bool true, undef, undef, undef, undef, undef, undef, undef, undef, undef, undef, undef, undef, undef, undef, undef, undef, undef, undef, undef, undef, undef]) (by kernel_rfl) ?_
      refine h14 _ _ ?_
      refine wp_ret ?_
      try simp only [Exit.then]
      refine ret1 (v := .bool false) rfl (by kernel_rfl) ?_
      exact ⟨ret_bool (show false = IsPlan_v0 m ps vs s id pl from by unfold IsPlan_v0; rw [q14, q18]; rfl), c71⟩
  · rw [q14]
    refine W.sq (v := .bool true) rfl (r_not (b := false) rfl (by kernel_rfl) rfl) (by kernel_rfl) rfl rfl ?_
    refine W.sq (v := .bool true) rfl (r_move rfl (by kernel_rfl)) (by kernel_rfl) rfl rfl ?_
    refine W.sk s13 rfl (by kernel_rfl) rfl rfl ?_
    refine W.sk s13 rfl (by kernel_rfl) rfl rfl ?_
    refine W.sk s13 rfl (by kernel_rfl) rfl rfl ?_
    refine W.sq (v := .bool true) rfl (r_pick (b := true) rfl (by kernel_rfl) (by kernel_rfl)) (by kernel_rfl) rfl rfl ?_
    refine W.sch_endU (fun U72 => [.agg #[.int .i64 m, .slice A n c], .slice A2 n2 c2, .int .i64 s, .int .i64 id, .slice A3 n3 c3, .pointer (some ⟨b2, 0, none⟩), undef, undef, undef, undef, .bool false, undef, undef, U72 13, U72 14, U72 15, U72 16, U72 17, U72 18, U72 19, undef, undef, undef, .bool true, undef, undef, undef, undef, undef, undef, undef, undef, undef, undef, undef, undef, undef, undef, undef, undef, undef, undef, undef, undef, undef]) (by kernel_rfl) (fun U72 => ?_)
    have x6 := SG.blk s13 x6 (by simp)
    have c73 := (SG.belowR c9 s13 (fun kq e => by cases e))
    refine h3 _ _ ?_
    refine wp_cond_true (by kernel_rfl) ?_
    refine wp_seq_k (fun K15 h15 => ?_)
    refine W.region_quiet [(0, false)] (by kernel_rfl) ?_
    refine W.sq (v := .bool false) rfl (r_assign rfl (by kernel_rfl)) (by kernel_rfl) rfl rfl ?_
    refine W.sch_end (l' := [.agg #[.int .i64 m, .slice A n c], .slice A2 n2 c2, .int .i64 s, .int .i64 id, .slice A3 n3 c3, .pointer (some ⟨b2, 0, none⟩), undef, undef, undef, undef, .bool false, undef, undef, (U72 13), (U72 14), (U72 15), (U72 16), (U72 17), (U72 18), (U72 19), undef, undef, undef, .bool true, undef, undef, undef, undef, undef, undef, undef, undef, undef, undef, undef, undef, undef, undef, undef, undef, undef, undef, undef, undef, undef]) (by kernel_rfl) ?_
    refine h15 _ _ ?_
    refine wp_ret ?_
    try simp only [Exit.then]
    refine ret1 (v := .bool false) rfl (by kernel_rfl) ?_
    exact ⟨ret_bool (show false = IsPlan_v0 m ps vs s id pl from by unfold IsPlan_v0; rw [q14]; rfl), c73⟩

set_option maxRecDepth 100000 in
set_option maxHeartbeats 1000000 in
theorem IsPlan_spec (m : Int) (A : Option Addr) (n c : Nat) (ps : List Pp) (A2 : Option Addr) (n2 c2 : Nat) (vs : List Vv) (s id : Int) (A3 : Option Addr) (n3 c3 : Nat) (pl : List Int) (w : World) (ha : Rd w 4 A n (pipesV ps)) (hb : Rd w 4 A2 n2 (valvesV vs)) (hp3 : Rd w 1 A3 n3 (intsV pl)) (hn : n ≤ 1048576) (hn2 : n2 ≤ 1048576) (hn3 : n3 ≤ 1048576) (hfm : Fm A n c) (hfm2 : Fm A2 n2 c2) (hfp : Fm A3 n3 c3) :
    Calls Try.prog 15 #[.agg #[.int .i64 m, .slice A n c], .slice A2 n2 c2, .int .i64 s, .int .i64 id, .slice A3 n3 c3] w fun e w' => e = .returned (.bool (IsPlan_v0 m ps vs s id pl)) ∧ Below w.heap.size w w' := by
  have hl := rd_pipes_len ha
  have hl2 := rd_valves_len hb
  have hl3 := rd_ints_len hp3
  go_enter Try.func15, Try.ntmps15
  refine wp_seq_k (fun K1 h1 => ?_)
  refine W.region_plain (row := none) [(0, true), (1, false)] (by kernel_rfl) ?_
  have s1 := SG.self w none
  refine W.sn (fun b => .pointer (some ⟨b, 0, none⟩)) #[.int .i64 m, .slice A n c] 32 s1 rfl (by kernel_rfl) rfl (fun _ => by kernel_rfl) (fun b2 w3 hb4 k5 x6 s7 => ?_)
  have lo8 : w.heap.size ≤ b2 := by have := ((SG.belowR (Below.refl _ _) s1 (fun kq e => by cases e))).size; omega
  refine W.sq (v := .bool false) rfl (r_assign rfl (by kernel_rfl)) (by kernel_rfl) rfl rfl ?_
  refine W.sch_end (l' := [.agg #[.int .i64 m, .slice A n c], .slice A2 n2 c2, .int .i64 s, .int .i64 id, .slice A3 n3 c3, .pointer (some ⟨b2, 0, none⟩), undef, undef, undef, undef, .bool false, undef, undef, undef, undef, undef, undef]) (by kernel_rfl) ?_
  have c9 := (SG.belowR (Below.refl _ _) s7 (fun kq e => by cases e))
  refine h1 _ _ ?_
  refine wp_seq_k (fun K2 h2 => ?_)
  refine W.region_plain (row := none) [(0, false), (1, false), (2, false), (3, false), (4, false), (5, true), (6, false)] (by kernel_rfl) ?_
  have s10 := SG.self w3 none
  refine W.sq (v := .agg #[.int .i64 m, .slice A n c]) rfl (r_load2 rfl (by kernel_rfl) (by kernel_rfl) (by kernel_rfl) (sgS (blk_cell (j := 0) x6 (by kernel_rfl)) (by simp)) (sgS (blk_cell (j := 1) x6 (by kernel_rfl)) (by simp))) (by kernel_rfl) rfl rfl ?_
  refine W.sq (v := .slice A2 n2 c2) rfl (r_move rfl (by kernel_rfl)) (by kernel_rfl) rfl rfl ?_
  refine W.sq (v := .int .i64 s) rfl (r_move rfl (by kernel_rfl)) (by kernel_rfl) rfl rfl ?_
  refine W.sq (v := .int .i64 id) rfl (r_move rfl (by kernel_rfl)) (by kernel_rfl) rfl rfl ?_
  refine W.sq (v := .slice A3 n3 c3) rfl (r_move rfl (by kernel_rfl)) (by kernel_rfl) rfl rfl ?_
  refine W.sc (vs := [.agg #[.int .i64 m, .slice A n c], .slice A2 n2 c2, .int .i64 s, .int .i64 id, .slice A3 n3 c3]) rfl rfl (by kernel_rfl) (by kernel_rfl) (by kernel_rfl) rfl (l5Plan_any m A n c ps A2 n2 c2 vs s id A3 n3 c3 pl _ (Rd.kept ha (SG.belowR c9 s10 (fun kq e => by cases e))) (Rd.kept hb (SG.belowR c9 s10 (fun kq e => by cases e))) (Rd.kept hp3 (SG.belowR c9 s10 (fun kq e => by cases e))) (by omega) (by omega) (by omega) hfm hfm2 hfp) ?_
  rintro e w12 ⟨rfl, b11⟩
  have s13 := SG.of_below s10 b11
  refine ⟨_, rfl, s13, ?_⟩
  rcases Bool.eq_false_or_eq_true (IsPlan_v0 m ps vs s id pl) with q14 | q14
  · rw [q14]
    refine W.sq (v := .bool true) rfl (r_assign rfl (by kernel_rfl)) (by kernel_rfl) rfl rfl ?_
    refine W.sch_endU (fun U15 => [.agg #[.int .i64 m, .slice A n c], .slice A2 n2 c2, .int .i64 s, .int .i64 id, .slice A3 n3 c3, .pointer (some ⟨b2, 0, none⟩), undef, undef, undef, undef, .bool true, U15 11, U15 12, U15 13, U15 14, U15 15, U15 16]) (by kernel_rfl) (fun U15 => ?_)
    have x6 := SG.blk s13 x6 (by simp)
    have c16 := (SG.belowR c9 s13 (fun kq e => by cases e))
    refine h2 _ _ ?_
    refine wp_ret ?_
    try simp only [Exit.then]
    refine ret1 (v := .bool true) rfl (by kernel_rfl) ?_
    exact ⟨ret_bool q14.symm, c16⟩
  · rw [q14]
    refine W.sq (v := .bool false) rfl (r_assign rfl (by kernel_rfl)) (by kernel_rfl) rfl rfl ?_
    refine W.sch_endU (fun U17 => [.agg #[.int .i64 m, .slice A n c], .slice A2 n2 c2, .int .i64 s, .int .i64 id, .slice A3 n3 c3, .pointer (some ⟨b2, 0, none⟩), undef, undef, undef, undef, .bool false, U17 11, U17 12, U17 13, U17 14, U17 15, U17 16]) (by kernel_rfl) (fun U17 => ?_)
    have x6 := SG.blk s13 x6 (by simp)
    have c18 := (SG.belowR c9 s13 (fun kq e => by cases e))
    refine h2 _ _ ?_
    refine wp_ret ?_
    try simp only [Exit.then]
    refine ret1 (v := .bool false) rfl (by kernel_rfl) ?_
    exact ⟨ret_bool q14.symm, c18⟩

set_option maxRecDepth 100000 in
set_option maxHeartbeats 1000000 in
theorem HarmOf_impl (m : Int) (A : Option Addr) (n c : Nat) (ps : List Pp) (A2 : Option Addr) (n2 c2 : Nat) (vs : List Vv) (s id : Int) (A3 : Option Addr) (n3 c3 : Nat) (pl : List Int) (A4 : Option Addr) (n4 c4 : Nat) (cs : List Int) (w : World) (ha : Rd w 4 A n (pipesV ps)) (hb : Rd w 4 A2 n2 (valvesV vs)) (hp3 : Rd w 1 A3 n3 (intsV pl)) (hc4 : Rd w 1 A4 n4 (intsV cs)) (hn : n ≤ 1048576) (hn2 : n2 ≤ 1048576) (hn3 : n3 ≤ 1048576) (hn4 : n4 ≤ 1048576) (hfm : Fm A n c) (hfm2 : Fm A2 n2 c2) (hfp : Fm A3 n3 c3) (hfc : Fm A4 n4 c4) :
    Calls Try.prog 30 #[.agg #[.int .i64 m, .slice A n c], .slice A2 n2 c2, .int .i64 s, .int .i64 id, .slice A3 n3 c3, .slice A4 n4 c4] w fun e w' => e = .returned (.tuple #[.int .i64 (HarmOf_v0 m ps vs s id pl cs), .bool (HarmOf_v1 m ps vs s id pl cs)]) ∧ Below w.heap.size w w' := by
  have hl := rd_pipes_len ha
  have hl2 := rd_valves_len hb
  have hl3 := rd_ints_len hp3
  have hl4 := rd_ints_len hc4
  go_enter Try.func30, Try.ntmps30
  refine wp_seq_k (fun K1 h1 => ?_)
  refine W.region_plain (row := none) [(0, true), (1, false), (2, false)] (by kernel_rfl) ?_
  have s1 := SG.self w none
  refine W.sn (fun b => .pointer (some ⟨b, 0, none⟩)) #[.int .i64 m, .slice A n c] 32 s1 rfl (by kernel_rfl) rfl (fun _ => by kernel_rfl) (fun b2 w3 hb4 k5 x6 s7 => ?_)
  have lo8 : w.heap.size ≤ b2 := by have := ((SG.belowR (Below.refl _ _) s1 (fun kq e => by cases e))).size; omega
  refine W.sq (v := .int .i64 0) rfl (r_assign rfl (by kernel_rfl)) (by kernel_rfl) rfl rfl ?_
  refine W.sq (v := .bool false) rfl (r_assign rfl (by kernel_rfl)) (by kernel_rfl) rfl rfl ?_
  refine W.sch_end (l' := [.agg #[.int .i64 m, .slice A n c], .slice A2 n2 c2, .int .i64 s, .int .i64 id, .slice A3 n3 c3, .slice A4 n4 c4, .pointer (some ⟨b2, 0, none⟩), undef, undef, undef, undef, undef, .int .i64 0, .bool false, undef, undef, undef, undef, undef, undef, undef, undef, undef, undef, undef, undef, undef, undef, undef, undef, undef, undef, undef]) (by kernel_rfl) ?_
  have c9 := (SG.belowR (Below.refl _ _) s7 (fun kq e => by cases e))
  refine h1 _ _ ?_
  refine wp_seq_k (fun K2 h2 => ?_)
  refine wp_seq_k (fun K3 h3 => ?_)
  refine W.region_plain (row := none) [(0, false), (1, false), (2, false), (3, false), (4, false), (5, true), (6, false), (7, false), (8, false), (9, false), (10, true), (11, false), (12, false)] (by kernel_rfl) ?_
  have s10 := SG.self w3 none
  refine W.sq (v := .agg #[.int .i64 m, .slice A n c]) rfl (r_load2 rfl (by kernel_rfl) (by kernel_rfl) (by kernel_rfl) (sgS (blk_cell (j := 0) x6 (by kernel_rfl)) (by simp)) (sgS (blk_cell (j := 1) x6 (by kernel_rfl)) (by simp))) (by kernel_rfl) rfl rfl ?_
  refine W.sq (v := .slice A2 n2 c2) rfl (r_move rfl (by kernel_rfl)) (by kernel_rfl) rfl rfl ?_
  refine W.sq (v := .int .i64 s) rfl (r_move rfl (by kernel_rfl)) (by kernel_rfl) rfl rfl ?_
  refine W.sq (v := .int .i64 id) rfl (r_move rfl (by kernel_rfl)) (by kernel_rfl) rfl rfl ?_
  refine W.sq (v := .slice A3 n3 c3) rfl (r_move rfl (by kernel_rfl)) (by kernel_rfl) rfl rfl ?_
  refine W.sc (vs := [.agg #[.int .i64 m, .slice A n c], .slice A2 n2 c2, .int .i64 s, .int .i64 id, .slice A3 n3 c3]) rfl rfl (by kernel_rfl) (by kernel_rfl) (by kernel_rfl) rfl (IsPlan_impl m A n c ps A2 n2 c2 vs s id A3 n3 c3 pl _ (Rd.kept ha (SG.belowR c9 s10 (fun kq e => by cases e))) (Rd.kept hb (SG.belowR c9 s10 (fun kq e => by cases e))) (Rd.kept hp3 (SG.belowR c9 s10 (fun kq e => by cases e))) (by omega) (by omega) (by omega) hfm hfm2 hfp) ?_
  rintro e w12 ⟨rfl, b11⟩
  have s13 := SG.of_below s10 b11
  refine ⟨_, rfl, s13, ?_⟩
  rcases Bool.eq_false_or_eq_true (IsPlan_v0 m ps vs s id pl) with q14 | q14
  · rw [q14]
    obtain ⟨hcb9, hri9, _, _⟩ := IsPlan_of q14
    obtain ⟨hv9, hs, hfa⟩ := canB_of hcb9
    have hrl := riseL_len hri9
    have hvl := hv9.len
    refine W.sq (v := .bool false) rfl (r_not (b := true) rfl (by kernel_rfl) rfl) (by kernel_rfl) rfl rfl ?_
    refine W.sq (v := .bool false) rfl (r_move rfl (by kernel_rfl)) (by kernel_rfl) rfl rfl ?_
    refine W.sq (v := .agg #[.int .i64 m, .slice A n c]) rfl (r_load2 rfl (by kernel_rfl) (by kernel_rfl) (by kernel_rfl) (sgS (blk_cell (j := 0) x6 (by kernel_rfl)) (by simp)) (sgS (blk_cell (j := 1) x6 (by kernel_rfl)) (by simp))) (by kernel_rfl) rfl rfl ?_
    refine W.sq (v := .slice A4 n4 c4) rfl (r_move rfl (by kernel_rfl)) (by kernel_rfl) rfl rfl ?_
    refine W.sc (vs := [.agg #[.int .i64 m, .slice A n c], .slice A4 n4 c4]) rfl rfl (by kernel_rfl) (by kernel_rfl) (by kernel_rfl) rfl (areCustomers_any m A n c ps A4 n4 c4 cs _ (Rd.kept ha (SG.belowR c9 s13 (fun kq e => by cases e))) (by omega) (Rd.kept hc4 (SG.belowR c9 s13 (fun kq e => by cases e))) (by omega)) ?_
    rintro e w16 ⟨rfl, b15⟩
    have s17 := SG.of_below s13 b15
    refine ⟨_, rfl, s17, ?_⟩
    rcases Bool.eq_false_or_eq_true (custOk m cs) with q18 | q18
    · rw [q18]
      have hco := q18
      have hco9 := custOk_of hco
      refine W.sq (v := .bool false) rfl (r_not (b := true) rfl (by kernel_rfl) rfl) (by kernel_rfl) rfl rfl ?_
      refine W.sq (v := .bool false) rfl (r_pick (b := false) rfl (by kernel_rfl) (by kernel_rfl)) (by kernel_rfl) rfl rfl ?_
      refine W.sch_endU (fun U19 => [.agg #[.int .i64 m, .slice A n c], .slice A2 n2 c2, .int .i64 s, .int .i64 id, .slice A3 n3 c3, .slice A4 n4 c4, .pointer (some ⟨b2, 0, none⟩), undef, undef, undef, undef, undef, .int .i64 0, .bool false, U19 14, U19 15, U19 16, U19 17, U19 18, U19 19, U19 20, U19 21, U19 22, U19 23, U19 24, U19 25, .bool false, undef, undef, undef, undef, undef, undef]) (by kernel_rfl) (fun U19 => ?_)
      have x6 := SG.blk s17 x6 (by simp)
      have c20 := (SG.belowR c9 s17 (fun kq e => by cases e))
      refine h3 _ _ ?_
      refine wp_cond_false (by kernel_rfl) ?_
      refine wp_skip ?_
      refine h2 _ _ ?_
      refine wp_seq_k (fun K4 h4 => ?_)
      refine W.region_plain (row := none) [(0, false), (1, false), (2, false), (3, false), (4, false), (5, true), (6, false), (7, false)] (by kernel_rfl) ?_
      have s21 := SG.self w16 none
      refine W.sq (v := .agg #[.int .i64 m, .slice A n c]) rfl (r_load2 rfl (by kernel_rfl) (by kernel_rfl) (by kernel_rfl) (sgS (blk_cell (j := 0) x6 (by kernel_rfl)) (by simp)) (sgS (blk_cell (j := 1) x6 (by kernel_rfl)) (by simp))) (by kernel_rfl) rfl rfl ?_
      refine W.sq (v := .slice A2 n2 c2) rfl (r_move rfl (by kernel_rfl)) (by kernel_rfl) rfl rfl ?_
      refine W.sq (v := .int .i64 s) rfl (r_move rfl (by kernel_rfl)) (by kernel_rfl) rfl rfl ?_
      refine W.sq (v := .slice A3 n3 c3) rfl (r_move rfl (by kernel_rfl)) (by kernel_rfl) rfl rfl ?_
      refine W.sq (v := .slice A4 n4 c4) rfl (r_move rfl (by kernel_rfl)) (by kernel_rfl) rfl rfl ?_
      refine W.sc (vs := [.agg #[.int .i64 m, .slice A n c], .slice A2 n2 c2, .int .i64 s, .slice A3 n3 c3, .slice A4 n4 c4]) rfl rfl (by kernel_rfl) (by kernel_rfl) (by kernel_rfl) rfl (harmOf_any m A n c ps A2 n2 c2 vs s A3 n3 c3 pl A4 n4 c4 cs _ (Rd.kept ha (SG.belowR c20 s21 (fun kq e => by cases e))) (Rd.kept hb (SG.belowR c20 s21 (fun kq e => by cases e))) (by omega) (by omega) hfm2 hv9 hs (Rd.kept hp3 (SG.belowR c20 s21 (fun kq e => by cases e))) (by omega) (Rd.kept hc4 (SG.belowR c20 s21 (fun kq e => by cases e))) (by omega) hco) ?_
      rintro e w23 ⟨rfl, b22⟩
      have s24 := SG.of_below s21 b22
      refine ⟨_, rfl, s24, ?_⟩
      refine W.sq (v := .int .i64 (harmL ps vs s cs pl)) rfl (r_assign rfl (by kernel_rfl)) (by kernel_rfl) rfl rfl ?_
      refine W.sq (v := .bool true) rfl (r_assign rfl (by kernel_rfl)) (by kernel_rfl) rfl rfl ?_
      refine W.sch_endU (fun U25 => [.agg #[.int .i64 m, .slice A n c], .slice A2 n2 c2, .int .i64 s, .int .i64 id, .slice A3 n3 c3, .slice A4 n4 c4, .pointer (some ⟨b2, 0, none⟩), undef, undef, undef, undef, undef, .int .i64 (harmL ps vs s cs pl), .bool true, (U19 14), (U19 15), (U19 16), (U19 17), (U19 18), (U19 19), (U19 20), (U19 21), (U19 22), (U19 23), (U19 24), (U19 25), .bool false, U25 27, U25 28, U25 29, U25 30, U25 31, U25 32]) (by kernel_rfl) (fun U25 => ?_)
      have x6 := SG.blk s24 x6 (by simp)
      have c26 := (SG.belowR c20 s24 (fun kq e => by cases e))
      refine h4 _ _ ?_
      refine wp_ret ?_
      try simp only [Exit.then]
      refine ret2 (v := .int .i64 (harmL ps vs s cs pl)) (x := .bool true) rfl (by kernel_rfl) (by kernel_rfl) ?_
      have e8 : HarmOf_v1 m ps vs s id pl cs = true := by unfold HarmOf_v1; rw [q14, q18]; rfl
      exact ⟨by unfold HarmOf_v0; rw [if_pos e8, e8], c26⟩
    · rw [q18]
      refine W.sq (v := .bool true) rfl (r_not (b := false) rfl (by kernel_rfl) rfl) (by kernel_rfl) rfl rfl ?_
      refine W.sq (v := .bool true) rfl (r_pick (b := false) rfl (by kernel_rfl) (by kernel_rfl)) (by kernel_rfl) rfl rfl ?_
      refine W.sch_endU (fun U27 => [.agg #[.int .i64 m, .slice A n c], .slice A2 n2 c2, .int .i64 s, .int .i64 id, .slice A3 n3 c3, .slice A4 n4 c4, .pointer (some ⟨b2, 0, none⟩), undef, undef, undef, undef, undef, .int .i64 0, .bool false, U27 14, U27 15, U27 16, U27 17, U27 18, U27 19, U27 20, U27 21, U27 22, U27 23, U27 24, U27 25, .bool true, undef, undef, undef, undef, undef, undef]) (by kernel_rfl) (fun U27 => ?_)
      have x6 := SG.blk s17 x6 (by simp)
      have c28 := (SG.belowR c9 s17 (fun kq e => by cases e))
      refine h3 _ _ ?_
      refine wp_cond_true (by kernel_rfl) ?_
      refine wp_seq_k (fun K5 h5 => ?_)
      refine W.region_quiet [(0, false), (1, false)] (by kernel_rfl) ?_
      refine W.sq (v := .int .i64 0) rfl (r_assign rfl (by kernel_rfl)) (by kernel_rfl) rfl rfl ?_
      refine W.sq (v := .bool false) rfl (r_assign rfl (by kernel_rfl)) (by kernel_rfl) rfl rfl ?_
      refine W.sch_end (l' := [.agg #[.int .i64 m, .slice A n c], .slice A2 n2 c2, .int .i64 s, .int .i64 id, .slice A3 n3 c3, .slice A4 n4 c4, .pointer (some ⟨b2, 0, none⟩), undef, undef, undef, undef, undef, .int .i64 0, .bool false, (U27 14), (U27 15), (U27 16), (U27 17), (U27 18), (U27 19), (U27 20), (U27 21), (U27 22), (U27 23), (U27 24), (U27 25), .bool true, undef, undef, undef, undef, undef, undef]) (by kernel_rfl) ?_
      refine h5 _ _ ?_
      refine wp_ret ?_
      try simp only [Exit.then]
      refine ret2 (v := .int .i64 0) (x := .bool false) rfl (by kernel_rfl) (by kernel_rfl) ?_
      have e8 : HarmOf_v1 m ps vs s id pl cs = false := by unfold HarmOf_v1; rw [q18, Bool.and_false]
      exact ⟨by unfold HarmOf_v0; rw [if_neg (by rw [e8]; simp), e8], c28⟩
  · rw [q14]
    refine W.sq (v := .bool true) rfl (r_not (b := false) rfl (by kernel_rfl) rfl) (by kernel_rfl) rfl rfl ?_
    refine W.sq (v := .bool true) rfl (r_move rfl (by kernel_rfl)) (by kernel_rfl) rfl rfl ?_
    refine W.sk s13 rfl (by kernel_rfl) rfl rfl ?_
    refine W.sk s13 rfl (by kernel_rfl) rfl rfl ?_
    refine W.sk s13 rfl (by kernel_rfl) rfl rfl ?_
    refine W.sk s13 rfl (by kernel_rfl) rfl rfl ?_
    refine W.sq (v := .bool true) rfl (r_pick (b := true) rfl (by kernel_rfl) (by kernel_rfl)) (by kernel_rfl) rfl rfl ?_
    refine W.sch_endU (fun U29 => [.agg #[.int .i64 m, .slice A n c], .slice A2 n2 c2, .int .i64 s, .int .i64 id, .slice A3 n3 c3, .slice A4 n4 c4, .pointer (some ⟨b2, 0, none⟩), undef, undef, undef, undef, undef, .int .i64 0, .bool false, U29 14, U29 15, U29 16, U29 17, U29 18, U29 19, U29 20, U29 21, undef, undef, undef, undef, .bool true, undef, undef, undef, undef, undef, undef]) (by kernel_rfl) (fun U29 => ?_)
    have x6 := SG.blk s13 x6 (by simp)
    have c30 := (SG.belowR c9 s13 (fun kq e => by cases e))
    refine h3 _ _ ?_
    refine wp_cond_true (by kernel_rfl) ?_
    refine wp_seq_k (fun K6 h6 => ?_)
    refine W.region_quiet [(0, false), (1, false)] (by kernel_rfl) ?_
    refine W.sq (v := .int .i64 0) rfl (r_assign rfl (by kernel_rfl)) (by kernel_rfl) rfl rfl ?_
    refine W.sq (v := .bool false) rfl (r_assign rfl (by kernel_rfl)) (by kernel_rfl) rfl rfl ?_
    refine W.sch_end (l' := [.agg #[.int .i64 m, .slice A n c], .slice A2 n2 c2, .int .i64 s, .int .i64 id, .slice A3 n3 c3, .slice A4 n4 c4, .pointer (some ⟨b2, 0, none⟩), undef, undef, undef, undef, undef, .int .i64 0, .bool false, (U29 14), (U29 15), (U29 16), (U29 17), (U29 18), (U29 19), (U29 20), (U29 21), undef, undef, undef, undef, .bool true, undef, undef, undef, undef, undef, undef]) (by kernel_rfl) ?_
    refine h6 _ _ ?_
    refine wp_ret ?_
    try simp only [Exit.then]
    refine ret2 (v := .int .i64 0) (x := .bool false) rfl (by kernel_rfl) (by kernel_rfl) ?_
    have e8 : HarmOf_v1 m ps vs s id pl cs = false := by unfold HarmOf_v1; rw [q14]; rfl
    exact ⟨by unfold HarmOf_v0; rw [if_neg (by rw [e8]; simp), e8], c30⟩

set_option maxRecDepth 100000 in
set_option maxHeartbeats 1000000 in
theorem HarmOf_spec (m : Int) (A : Option Addr) (n c : Nat) (ps : List Pp) (A2 : Option Addr) (n2 c2 : Nat) (vs : List Vv) (s id : Int) (A3 : Option Addr) (n3 c3 : Nat) (pl : List Int) (A4 : Option Addr) (n4 c4 : Nat) (cs : List Int) (w : World) (ha : Rd w 4 A n (pipesV ps)) (hb : Rd w 4 A2 n2 (valvesV vs)) (hp3 : Rd w 1 A3 n3 (intsV pl)) (hc4 : Rd w 1 A4 n4 (intsV cs)) (hn : n ≤ 1048576) (hn2 : n2 ≤ 1048576) (hn3 : n3 ≤ 1048576) (hn4 : n4 ≤ 1048576) (hfm : Fm A n c) (hfm2 : Fm A2 n2 c2) (hfp : Fm A3 n3 c3) (hfc : Fm A4 n4 c4) :
    Calls Try.prog 29 #[.agg #[.int .i64 m, .slice A n c], .slice A2 n2 c2, .int .i64 s, .int .i64 id, .slice A3 n3 c3, .slice A4 n4 c4] w fun e w' => e = .returned (.tuple #[.int .i64 (HarmOf_v0 m ps vs s id pl cs), .bool (HarmOf_v1 m ps vs s id pl cs)]) ∧ Below w.heap.size w w' := by
  have hl := rd_pipes_len ha
  have hl2 := rd_valves_len hb
  have hl3 := rd_ints_len hp3
  have hl4 := rd_ints_len hc4
  go_enter Try.func29, Try.ntmps29
  refine wp_seq_k (fun K1 h1 => ?_)
  refine W.region_plain (row := none) [(0, true), (1, false), (2, false)] (by kernel_rfl) ?_
  have s1 := SG.self w none
  refine W.sn (fun b => .pointer (some ⟨b, 0, none⟩)) #[.int .i64 m, .slice A n c] 32 s1 rfl (by kernel_rfl) rfl (fun _ => by kernel_rfl) (fun b2 w3 hb4 k5 x6 s7 => ?_)
  have lo8 : w.heap.size ≤ b2 := by have := ((SG.belowR (Below.refl _ _) s1 (fun kq e => by cases e))).size; omega
  refine W.sq (v := .int .i64 0) rfl (r_assign rfl (by kernel_rfl)) (by kernel_rfl) rfl rfl ?_
  refine W.sq (v := .bool false) rfl (r_assign rfl (by kernel_rfl)) (by kernel_rfl) rfl rfl ?_
  refine W.sch_end (l' := [.agg #[.int .i64 m, .slice A n c], .slice A2 n2 c2, .int .i64 s, .int .i64 id, .slice A3 n3 c3, .slice A4 n4 c4, .pointer (some ⟨b2, 0, none⟩), undef, undef, undef, undef, undef, .int .i64 0, .bool false, undef, undef, undef, undef, undef, undef, undef, undef, undef, undef, undef, undef, undef, undef, undef, undef, undef, undef, undef]) (by kernel_rfl) ?_
  have c9 := (SG.belowR (Below.refl _ _) s7 (fun kq e => by cases e))
  refine h1 _ _ ?_
  refine wp_seq_k (fun K2 h2 => ?_)
  refine wp_seq_k (fun K3 h3 => ?_)
  refine W.region_plain (row := none) [(0, false), (1, false), (2, false), (3, false), (4, false), (5, true), (6, false), (7, false), (8, false), (9, false), (10, true), (11, false), (12, false)] (by kernel_rfl) ?_
  have s10 := SG.self w3 none
  refine W.sq (v := .agg #[.int .i64 m, .slice A n c]) rfl (r_load2 rfl (by kernel_rfl) (by kernel_rfl) (by kernel_rfl) (sgS (blk_cell (j := 0) x6 (by kernel_rfl)) (by simp)) (sgS (blk_cell (j := 1) x6 (by kernel_rfl)) (by simp))) (by kernel_rfl) rfl rfl ?_
  refine W.sq (v := .slice A2 n2 c2) rfl (r_move rfl (by kernel_rfl)) (by kernel_rfl) rfl rfl ?_
  refine W.sq (v := .int .i64 s) rfl (r_move rfl (by kernel_rfl)) (by kernel_rfl) rfl rfl ?_
  refine W.sq (v := .int .i64 id) rfl (r_move rfl (by kernel_rfl)) (by kernel_rfl) rfl rfl ?_
  refine W.sq (v := .slice A3 n3 c3) rfl (r_move rfl (by kernel_rfl)) (by kernel_rfl) rfl rfl ?_
  refine W.sc (vs := [.agg #[.int .i64 m, .slice A n c], .slice A2 n2 c2, .int .i64 s, .int .i64 id, .slice A3 n3 c3]) rfl rfl (by kernel_rfl) (by kernel_rfl) (by kernel_rfl) rfl (l5Plan_any m A n c ps A2 n2 c2 vs s id A3 n3 c3 pl _ (Rd.kept ha (SG.belowR c9 s10 (fun kq e => by cases e))) (Rd.kept hb (SG.belowR c9 s10 (fun kq e => by cases e))) (Rd.kept hp3 (SG.belowR c9 s10 (fun kq e => by cases e))) (by omega) (by omega) (by omega) hfm hfm2 hfp) ?_
  rintro e w12 ⟨rfl, b11⟩
  have s13 := SG.of_below s10 b11
  refine ⟨_, rfl, s13, ?_⟩
  rcases Bool.eq_false_or_eq_true (IsPlan_v0 m ps vs s id pl) with q14 | q14
  · rw [q14]
    obtain ⟨hcb9, hri9, _, _⟩ := IsPlan_of q14
    obtain ⟨hv9, hs, hfa⟩ := canB_of hcb9
    have hrl := riseL_len hri9
    have hvl := hv9.len
    refine W.sq (v := .bool false) rfl (r_not (b := true) rfl (by kernel_rfl) rfl) (by kernel_rfl) rfl rfl ?_
    refine W.sq (v := .bool false) rfl (r_move rfl (by kernel_rfl)) (by kernel_rfl) rfl rfl ?_
    refine W.sq (v := .agg #[.int .i64 m, .slice A n c]) rfl (r_load2 rfl (by kernel_rfl) (by kernel_rfl) (by kernel_rfl) (sgS (blk_cell (j := 0) x6 (by kernel_rfl)) (by simp)) (sgS (blk_cell (j := 1) x6 (by kernel_rfl)) (by simp))) (by kernel_rfl) rfl rfl ?_
    refine W.sq (v := .slice A4 n4 c4) rfl (r_move rfl (by kernel_rfl)) (by kernel_rfl) rfl rfl ?_
    refine W.sc (vs := [.agg #[.int .i64 m, .slice A n c], .slice A4 n4 c4]) rfl rfl (by kernel_rfl) (by kernel_rfl) (by kernel_rfl) rfl (l5Customers_any m A n c ps A4 n4 c4 cs _ (Rd.kept ha (SG.belowR c9 s13 (fun kq e => by cases e))) (by omega) (Rd.kept hc4 (SG.belowR c9 s13 (fun kq e => by cases e))) (by omega)) ?_
    rintro e w16 ⟨rfl, b15⟩
    have s17 := SG.of_below s13 b15
    refine ⟨_, rfl, s17, ?_⟩
    rcases Bool.eq_false_or_eq_true (custOk m cs) with q18 | q18
    · rw [q18]
      have hco := q18
      have hco9 := custOk_of hco
      refine W.sq (v := .bool false) rfl (r_not (b := true) rfl (by kernel_rfl) rfl) (by kernel_rfl) rfl rfl ?_
      refine W.sq (v := .bool false) rfl (r_pick (b := false) rfl (by kernel_rfl) (by kernel_rfl)) (by kernel_rfl) rfl rfl ?_
      refine W.sch_endU (fun U19 => [.agg #[.int .i64 m, .slice A n c], .slice A2 n2 c2, .int .i64 s, .int .i64 id, .slice A3 n3 c3, .slice A4 n4 c4, .pointer (some ⟨b2, 0, none⟩), undef, undef, undef, undef, undef, .int .i64 0, .bool false, U19 14, U19 15, U19 16, U19 17, U19 18, U19 19, U19 20, U19 21, U19 22, U19 23, U19 24, U19 25, .bool false, undef, undef, undef, undef, undef, undef]) (by kernel_rfl) (fun U19 => ?_)
      have x6 := SG.blk s17 x6 (by simp)
      have c20 := (SG.belowR c9 s17 (fun kq e => by cases e))
      refine h3 _ _ ?_
      refine wp_cond_false (by kernel_rfl) ?_
      refine wp_skip ?_
      refine h2 _ _ ?_
      refine wp_seq_k (fun K4 h4 => ?_)
      refine W.region_plain (row := none) [(0, false), (1, false), (2, false), (3, false), (4, false), (5, true), (6, false), (7, false)] (by kernel_rfl) ?_
      have s21 := SG.self w16 none
      refine W.sq (v := .agg #[.int .i64 m, .slice A n c]) rfl (r_load2 rfl (by kernel_rfl) (by kernel_rfl) (by kernel_rfl) (sgS (blk_cell (j := 0) x6 (by kernel_rfl)) (by simp)) (sgS (blk_cell (j := 1) x6 (by kernel_rfl)) (by simp))) (by kernel_rfl) rfl rfl ?_
      refine W.sq (v := .slice A2 n2 c2) rfl (r_move rfl (by kernel_rfl)) (by kernel_rfl) rfl rfl ?_
      refine W.sq (v := .int .i64 s) rfl (r_move rfl (by kernel_rfl)) (by kernel_rfl) rfl rfl ?_
      refine W.sq (v := .slice A3 n3 c3) rfl (r_move rfl (by kernel_rfl)) (by kernel_rfl) rfl rfl ?_
      refine W.sq (v := .slice A4 n4 c4) rfl (r_move rfl (by kernel_rfl)) (by kernel_rfl) rfl rfl ?_
      refine W.sc (vs := [.agg #[.int .i64 m, .slice A n c], .slice A2 n2 c2, .int .i64 s, .slice A3 n3 c3, .slice A4 n4 c4]) rfl rfl (by kernel_rfl) (by kernel_rfl) (by kernel_rfl) rfl (l5Harm_any m A n c ps A2 n2 c2 vs s A3 n3 c3 pl A4 n4 c4 cs _ (Rd.kept ha (SG.belowR c20 s21 (fun kq e => by cases e))) (Rd.kept hb (SG.belowR c20 s21 (fun kq e => by cases e))) (by omega) (by omega) hfm2 hv9 hs (Rd.kept hp3 (SG.belowR c20 s21 (fun kq e => by cases e))) (by omega) (Rd.kept hc4 (SG.belowR c20 s21 (fun kq e => by cases e))) (by omega) hco) ?_
      rintro e w23 ⟨rfl, b22⟩
      have s24 := SG.of_below s21 b22
      refine ⟨_, rfl, s24, ?_⟩
      refine W.sq (v := .int .i64 (harmL ps vs s cs pl)) rfl (r_assign rfl (by kernel_rfl)) (by kernel_rfl) rfl rfl ?_
      refine W.sq (v := .bool true) rfl (r_assign rfl (by kernel_rfl)) (by kernel_rfl) rfl rfl ?_
      refine W.sch_endU (fun U25 => [.agg #[.int .i64 m, .slice A n c], .slice A2 n2 c2, .int .i64 s, .int .i64 id, .slice A3 n3 c3, .slice A4 n4 c4, .pointer (some ⟨b2, 0, none⟩), undef, undef, undef, undef, undef, .int .i64 (harmL ps vs s cs pl), .bool true, (U19 14), (U19 15), (U19 16), (U19 17), (U19 18), (U19 19), (U19 20), (U19 21), (U19 22), (U19 23), (U19 24), (U19 25), .bool false, U25 27, U25 28, U25 29, U25 30, U25 31, U25 32]) (by kernel_rfl) (fun U25 => ?_)
      have x6 := SG.blk s24 x6 (by simp)
      have c26 := (SG.belowR c20 s24 (fun kq e => by cases e))
      refine h4 _ _ ?_
      refine wp_ret ?_
      try simp only [Exit.then]
      refine ret2 (v := .int .i64 (harmL ps vs s cs pl)) (x := .bool true) rfl (by kernel_rfl) (by kernel_rfl) ?_
      have e8 : HarmOf_v1 m ps vs s id pl cs = true := by unfold HarmOf_v1; rw [q14, q18]; rfl
      exact ⟨by unfold HarmOf_v0; rw [if_pos e8, e8], c26⟩
    · rw [q18]
      refine W.sq (v := .bool true) rfl (r_not (b := false) rfl (by kernel_rfl) rfl) (by kernel_rfl) rfl rfl ?_
      refine W.sq (v := .bool true) rfl (r_pick (b := false) rfl (by kernel_rfl) (by kernel_rfl)) (by kernel_rfl) rfl rfl ?_
      refine W.sch_endU (fun U27 => [.agg #[.int .i64 m, .slice A n c], .slice A2 n2 c2, .int .i64 s, .int .i64 id, .slice A3 n3 c3, .slice A4 n4 c4, .pointer (some ⟨b2, 0, none⟩), undef, undef, undef, undef, undef, .int .i64 0, .bool false, U27 14, U27 15, U27 16, U27 17, U27 18, U27 19, U27 20, U27 21, U27 22, U27 23, U27 24, U27 25, .bool true, undef, undef, undef, undef, undef, undef]) (by kernel_rfl) (fun U27 => ?_)
      have x6 := SG.blk s17 x6 (by simp)
      have c28 := (SG.belowR c9 s17 (fun kq e => by cases e))
      refine h3 _ _ ?_
      refine wp_cond_true (by kernel_rfl) ?_
      refine wp_seq_k (fun K5 h5 => ?_)
      refine W.region_quiet [(0, false), (1, false)] (by kernel_rfl) ?_
      refine W.sq (v := .int .i64 0) rfl (r_assign rfl (by kernel_rfl)) (by kernel_rfl) rfl rfl ?_
      refine W.sq (v := .bool false) rfl (r_assign rfl (by kernel_rfl)) (by kernel_rfl) rfl rfl ?_
      refine W.sch_end (l' := [.agg #[.int .i64 m, .slice A n c], .slice A2 n2 c2, .int .i64 s, .int .i64 id, .slice A3 n3 c3, .slice A4 n4 c4, .pointer (some ⟨b2, 0, none⟩), undef, undef, undef, undef, undef, .int .i64 0, .bool false, (U27 14), (U27 15), (U27 16), (U27 17), (U27 18), (U27 19), (U27 20), (U27 21), (U27 22), (U27 23), (U27 24), (U27 25), .bool true, undef, undef, undef, undef, undef, undef]) (by kernel_rfl) ?_
      refine h5 _ _ ?_
      refine wp_ret ?_
      try simp only [Exit.then]
      refine ret2 (v := .int .i64 0) (x := .bool false) rfl (by kernel_rfl) (by kernel_rfl) ?_
      have e8 : HarmOf_v1 m ps vs s id pl cs = false := by unfold HarmOf_v1; rw [q18, Bool.and_false]
      exact ⟨by unfold HarmOf_v0; rw [if_neg (by rw [e8]; simp), e8], c28⟩
  · rw [q14]
    refine W.sq (v := .bool true) rfl (r_not (b := false) rfl (by kernel_rfl) rfl) (by kernel_rfl) rfl rfl ?_
    refine W.sq (v := .bool true) rfl (r_move rfl (by kernel_rfl)) (by kernel_rfl) rfl rfl ?_
    refine W.sk s13 rfl (by kernel_rfl) rfl rfl ?_
    refine W.sk s13 rfl (by kernel_rfl) rfl rfl ?_
    refine W.sk s13 rfl (by kernel_rfl) rfl rfl ?_
    refine W.sk s13 rfl (by kernel_rfl) rfl rfl ?_
    refine W.sq (v := .bool true) rfl (r_pick (b := true) rfl (by kernel_rfl) (by kernel_rfl)) (by kernel_rfl) rfl rfl ?_
    refine W.sch_endU (fun U29 => [.agg #[.int .i64 m, .slice A n c], .slice A2 n2 c2, .int .i64 s, .int .i64 id, .slice A3 n3 c3, .slice A4 n4 c4, .pointer (some ⟨b2, 0, none⟩), undef, undef, undef, undef, undef, .int .i64 0, .bool false, U29 14, U29 15, U29 16, U29 17, U29 18, U29 19, U29 20, U29 21, undef, undef, undef, undef, .bool true, undef, undef, undef, undef, undef, undef]) (by kernel_rfl) (fun U29 => ?_)
    have x6 := SG.blk s13 x6 (by simp)
    have c30 := (SG.belowR c9 s13 (fun kq e => by cases e))
    refine h3 _ _ ?_
    refine wp_cond_true (by kernel_rfl) ?_
    refine wp_seq_k (fun K6 h6 => ?_)
    refine W.region_quiet [(0, false), (1, false)] (by kernel_rfl) ?_
    refine W.sq (v := .int .i64 0) rfl (r_assign rfl (by kernel_rfl)) (by kernel_rfl) rfl rfl ?_
    refine W.sq (v := .bool false) rfl (r_assign rfl (by kernel_rfl)) (by kernel_rfl) rfl rfl ?_
    refine W.sch_end (l' := [.agg #[.int .i64 m, .slice A n c], .slice A2 n2 c2, .int .i64 s, .int .i64 id, .slice A3 n3 c3, .slice A4 n4 c4, .pointer (some ⟨b2, 0, none⟩), undef, undef, undef, undef, undef, .int .i64 0, .bool false, (U29 14), (U29 15), (U29 16), (U29 17), (U29 18), (U29 19), (U29 20), (U29 21), undef, undef, undef, undef, .bool true, undef, undef, undef, undef, undef, undef]) (by kernel_rfl) ?_
    refine h6 _ _ ?_
    refine wp_ret ?_
    try simp only [Exit.then]
    refine ret2 (v := .int .i64 0) (x := .bool false) rfl (by kernel_rfl) (by kernel_rfl) ?_
    have e8 : HarmOf_v1 m ps vs s id pl cs = false := by unfold HarmOf_v1; rw [q14]; rfl
    exact ⟨by unfold HarmOf_v0; rw [if_neg (by rw [e8]; simp), e8], c30⟩

end Go.Proofs.Ytnfmdkbelbppdaa
