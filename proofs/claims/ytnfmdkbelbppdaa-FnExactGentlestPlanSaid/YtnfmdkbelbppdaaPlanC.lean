/- The gentlest plans: both packages answer alike. -/
import Derived.Test.YtnfmdkbelbppdaaBestC
namespace Go.Proofs.Ytnfmdkbelbppdaa
open Go.RowKit
set_option linter.unusedVariables false
set_option linter.unusedSimpArgs false

noncomputable def GentlestPlan_v2 (m : Int) (ps : List Pp) (vs : List Vv) (s id : Int) (cs : List Int) : Bool := canB m ps vs s id && (custOk m cs && (bestR ps vs s id cs).isSome)
noncomputable def GentlestPlan_v0 (m : Int) (ps : List Pp) (vs : List Vv) (s id : Int) (cs : List Int) : List Int := if GentlestPlan_v2 m ps vs s id cs = true then bpOf (bestR ps vs s id cs) else []
noncomputable def GentlestPlan_v1 (m : Int) (ps : List Pp) (vs : List Vv) (s id : Int) (cs : List Int) : Int := if GentlestPlan_v2 m ps vs s id cs = true then ltOf (bestR ps vs s id cs) else 0
theorem GentlestPlan_len (m : Int) (ps : List Pp) (vs : List Vv) (s id : Int) (cs : List Int) : (GentlestPlan_v0 m ps vs s id cs).length ≤ 1048576 := by
  unfold GentlestPlan_v0
  split
  · rename_i h
    have hc : canB m ps vs s id = true := by unfold GentlestPlan_v2 at h; rw [Bool.and_eq_true] at h; exact h.1
    have h9 := bestP_len (ps := ps) (s := s) (id := id) (h := harmL ps vs s cs) (canB_of hc).1.len
    unfold bestR; omega
  · simp
theorem fin_ints3 {w w' : World} {e : TypeId} {A : Option Addr} {n c : Nat} {zs vs : List Int} {z v : Int} {b vb : Bool} (how : w'.ownsRow w.heap.size e 1 (.slice A n c) n (intsV zs)) (hz : zs = vs) (hv : z = v) (hb : b = vb) (bel : Below w.heap.size w w') :
    ∃ A' d, Ending.returned (.tuple #[.slice A n c, .int .i64 z, .bool b]) = .returned (.tuple #[.slice A' vs.length d, .int .i64 v, .bool vb]) ∧ w'.ownsRow w.heap.size e 1 (.slice A' vs.length d) vs.length (intsV vs) ∧ Below w.heap.size w w' := by
  subst hz hv hb
  have hl := own_len how
  rw [ints_len] at hl
  subst hl
  exact ⟨_, _, rfl, how, bel⟩
theorem fin_rd3 {w w' : World} {A : Option Addr} {n c : Nat} {zs vs : List Int} {z v : Int} {b vb : Bool} (how : Rd w' 1 A n (intsV zs)) (hz : zs = vs) (hv : z = v) (hb : b = vb) (bel : Below w.heap.size w w') :
    ∃ A' d, Ending.returned (.tuple #[.slice A n c, .int .i64 z, .bool b]) = .returned (.tuple #[.slice A' vs.length d, .int .i64 v, .bool vb]) ∧ Rd w' 1 A' vs.length (intsV vs) ∧ Below w.heap.size w w' := by
  subst hz hv hb
  have hl := rd_ints_len how
  subst hl
  exact ⟨_, _, rfl, how, bel⟩

set_option maxRecDepth 100000 in
set_option maxHeartbeats 1000000 in
theorem GentlestPlan_impl (m : Int) (A : Option Addr) (n c : Nat) (ps : List Pp) (A2 : Option Addr) (n2 c2 : Nat) (vs : List Vv) (s id : Int) (A4 : Option Addr) (n4 c4 : Nat) (cs : List Int) (w : World) (ha : Rd w 4 A n (pipesV ps)) (hb : Rd w 4 A2 n2 (valvesV vs)) (hc4 : Rd w 1 A4 n4 (intsV cs)) (hn : n ≤ 1048576) (hn2 : n2 ≤ 1048576) (hn4 : n4 ≤ 1048576) (hfm : Fm A n c) (hfm2 : Fm A2 n2 c2) (hfc : Fm A4 n4 c4) :
    Calls Try.prog 32 #[.agg #[.int .i64 m, .slice A n c], .slice A2 n2 c2, .int .i64 s, .int .i64 id, .slice A4 n4 c4] w fun e w' => ∃ A' d, e = .returned (.tuple #[.slice A' (GentlestPlan_v0 m ps vs s id cs).length d, .int .i64 (GentlestPlan_v1 m ps vs s id cs), .bool (GentlestPlan_v2 m ps vs s id cs)]) ∧ w'.ownsRow w.heap.size 3 1 (.slice A' (GentlestPlan_v0 m ps vs s id cs).length d) (GentlestPlan_v0 m ps vs s id cs).length (intsV (GentlestPlan_v0 m ps vs s id cs)) ∧ Below w.heap.size w w' := by
  have hl := rd_pipes_len ha
  have hl2 := rd_valves_len hb
  have hl4 := rd_ints_len hc4
  have hfl := findL_lt ps id
  go_enter Try.func32, Try.ntmps32
  refine wp_seq_k (fun K1 h1 => ?_)
  refine W.region_plain (row := none) [(0, true), (1, false), (2, false), (3, false)] (by kernel_rfl) ?_
  have s1 := SG.self w none
  refine W.sn (fun b => .pointer (some ⟨b, 0, none⟩)) #[.int .i64 m, .slice A n c] 32 s1 rfl (by kernel_rfl) rfl (fun _ => by kernel_rfl) (fun b2 w3 hb4 k5 x6 s7 => ?_)
  have lo8 : w.heap.size ≤ b2 := by have := ((SG.belowR (Below.refl _ _) s1 (fun kq e => by cases e))).size; omega
  refine W.as (v := .slice none 0 0) (h := ?_)
  refine W.as (v := .int .i64 0) (h := ?_)
  refine W.as (v := .bool false) (h := ?_)
  refine W.endF 42 [(0, .agg #[.int .i64 m, .slice A n c]), (1, .slice A2 n2 c2), (2, .int .i64 s), (3, .int .i64 id), (4, .slice A4 n4 c4), (5, .pointer (some ⟨b2, 0, none⟩)), (10, .slice none 0 0), (11, .int .i64 0), (12, .bool false)] (fun U9 => ?_)
  have c10 := (SG.belowR (Below.refl _ _) s7 (fun kq e => by cases e))
  refine h1 _ _ ?_
  refine wp_seq_k (fun K2 h2 => ?_)
  refine wp_seq_k (fun K3 h3 => ?_)
  refine W.region_plain (row := none) [(0, false), (1, false), (2, false), (3, false), (4, true), (5, false), (6, false), (7, false), (8, false), (9, true), (10, false), (11, false)] (by kernel_rfl) ?_
  have s11 := SG.self w3 none
  refine W.q (v := .agg #[.int .i64 m, .slice A n c]) (hr := (r_load2 rfl (by kernel_rfl) (by kernel_rfl) (by kernel_rfl) (sgS (blk_cell (j := 0) x6 (by kernel_rfl)) (by simp)) (sgS (blk_cell (j := 1) x6 (by kernel_rfl)) (by simp)))) (h := ?_)
  refine W.mv (v := .slice A2 n2 c2) (h := ?_)
  refine W.mv (v := .int .i64 s) (h := ?_)
  refine W.mv (v := .int .i64 id) (h := ?_)
  refine W.sc (vs := [.agg #[.int .i64 m, .slice A n c], .slice A2 n2 c2, .int .i64 s, .int .i64 id]) rfl rfl (by kernel_rfl) (by kernel_rfl) (by kernel_rfl) rfl (canBurst_any m A n c ps A2 n2 c2 vs s id _ (Rd.kept ha (SG.belowR c10 s11 (fun kq e => by cases e))) (Rd.kept hb (SG.belowR c10 s11 (fun kq e => by cases e))) (by omega) (by omega) hfm2) ?_
  rintro e w13 ⟨rfl, b12⟩
  have s14 := SG.of_below s11 b12
  refine ⟨_, rfl, s14, ?_⟩
  rcases Bool.eq_false_or_eq_true (canB m ps vs s id) with q15 | q15
  · rw [q15]
    obtain ⟨hv9, hs, hfa⟩ := canB_of q15
    have hg := hv9.net
    have hgl := hg.lo
    have hgh := hg.hi
    have hp := hg.pipesIn
    have hlen10 := hg.len
    have hu := hv9.uniq
    have hvl := hv9.len
    refine W.q (v := .bool false) (hr := (r_not (b := true) rfl (by kernel_rfl) rfl)) (h := ?_)
    refine W.mv (v := .bool false) (h := ?_)
    refine W.q (v := .agg #[.int .i64 m, .slice A n c]) (hr := (r_load2 rfl (by kernel_rfl) (by kernel_rfl) (by kernel_rfl) (sgS (blk_cell (j := 0) x6 (by kernel_rfl)) (by simp)) (sgS (blk_cell (j := 1) x6 (by kernel_rfl)) (by simp)))) (h := ?_)
    refine W.mv (v := .slice A4 n4 c4) (h := ?_)
    refine W.sc (vs := [.agg #[.int .i64 m, .slice A n c], .slice A4 n4 c4]) rfl rfl (by kernel_rfl) (by kernel_rfl) (by kernel_rfl) rfl (areCustomers_any m A n c ps A4 n4 c4 cs _ (Rd.kept ha (SG.belowR c10 s14 (fun kq e => by cases e))) (by omega) (Rd.kept hc4 (SG.belowR c10 s14 (fun kq e => by cases e))) (by omega)) ?_
    rintro e w17 ⟨rfl, b16⟩
    have s18 := SG.of_below s14 b16
    refine ⟨_, rfl, s18, ?_⟩
    rcases Bool.eq_false_or_eq_true (custOk m cs) with q19 | q19
    · rw [q19]
      have hco := q19
      have hco9 := custOk_of hco
      refine W.q (v := .bool false) (hr := (r_not (b := true) rfl (by kernel_rfl) rfl)) (h := ?_)
      refine W.q (v := .bool false) (hr := (r_pick (b := false) rfl (by kernel_rfl) (by kernel_rfl))) (h := ?_)
      refine W.endF 42 [(0, .agg #[.int .i64 m, .slice A n c]), (1, .slice A2 n2 c2), (2, .int .i64 s), (3, .int .i64 id), (4, .slice A4 n4 c4), (5, .pointer (some ⟨b2, 0, none⟩)), (10, .slice none 0 0), (11, .int .i64 0), (12, .bool false), (27, .bool false)] (fun U20 => ?_)
      have x6 := SG.blk s18 x6 (by simp)
      have c21 := (SG.belowR c10 s18 (fun kq e => by cases e))
      refine h3 _ _ ?_
      refine wp_cond_false (by kernel_rfl) ?_
      refine wp_skip ?_
      refine h2 _ _ ?_
      refine wp_seq_k (fun K4 h4 => ?_)
      refine W.region_plain (row := none) [(0, false), (1, false), (2, false), (3, false), (4, false), (5, true), (6, false), (7, false), (8, false), (9, false), (10, false), (11, false), (12, false)] (by kernel_rfl) ?_
      have s22 := SG.self w17 none
      refine W.q (v := .agg #[.int .i64 m, .slice A n c]) (hr := (r_load2 rfl (by kernel_rfl) (by kernel_rfl) (by kernel_rfl) (sgS (blk_cell (j := 0) x6 (by kernel_rfl)) (by simp)) (sgS (blk_cell (j := 1) x6 (by kernel_rfl)) (by simp)))) (h := ?_)
      refine W.mv (v := .slice A2 n2 c2) (h := ?_)
      refine W.mv (v := .int .i64 s) (h := ?_)
      refine W.mv (v := .int .i64 id) (h := ?_)
      refine W.mv (v := .slice A4 n4 c4) (h := ?_)
      have z27 := ((SG.belowR c21 s22 (fun kq e => by cases e))).size
      refine W.sc (vs := [.agg #[.int .i64 m, .slice A n c], .slice A2 n2 c2, .int .i64 s, .int .i64 id, .slice A4 n4 c4]) rfl rfl (by kernel_rfl) (by kernel_rfl) (by kernel_rfl) rfl (gentlest_any m A n c ps A2 n2 c2 vs s id A4 n4 c4 cs _ (Rd.kept ha (SG.belowR c21 s22 (fun kq e => by cases e))) (Rd.kept hb (SG.belowR c21 s22 (fun kq e => by cases e))) (by omega) (by omega) hfm2 hv9 hs hfa (Rd.kept hc4 (SG.belowR c21 s22 (fun kq e => by cases e))) (by omega) hco) ?_
      rintro e w30 ⟨A23, c24, rfl, ho25, b29⟩
      have s31 := SG.of_below s22 b29
      refine ⟨_, rfl, s31, ?_⟩
      have nb32 : Nb b2 (.slice A23 ((bpOf (bestR ps vs s id cs)).length) c24) := nb_lo ho25 (Nat.lt_of_lt_of_le (blk_lt x6) (World.grownBy.size s22))
      have ho26 := own_base (base' := w.heap.size) ho25 z27
      refine W.mv (v := .tuple #[.slice A23 ((bpOf (bestR ps vs s id cs)).length) c24, .int .i64 (ltOf (bestR ps vs s id cs)), .bool ((bestR ps vs s id cs).isSome)]) (h := ?_)
      refine W.q (v := .slice A23 ((bpOf (bestR ps vs s id cs)).length) c24) (hr := (r_extract (vs := #[.slice A23 ((bpOf (bestR ps vs s id cs)).length) c24, .int .i64 (ltOf (bestR ps vs s id cs)), .bool ((bestR ps vs s id cs).isSome)]) rfl (by kernel_rfl) (by kernel_rfl))) (h := ?_)
      refine W.q (v := .int .i64 (ltOf (bestR ps vs s id cs))) (hr := (r_extract (vs := #[.slice A23 ((bpOf (bestR ps vs s id cs)).length) c24, .int .i64 (ltOf (bestR ps vs s id cs)), .bool ((bestR ps vs s id cs).isSome)]) rfl (by kernel_rfl) (by kernel_rfl))) (h := ?_)
      refine W.q (v := .bool ((bestR ps vs s id cs).isSome)) (hr := (r_extract (vs := #[.slice A23 ((bpOf (bestR ps vs s id cs)).length) c24, .int .i64 (ltOf (bestR ps vs s id cs)), .bool ((bestR ps vs s id cs).isSome)]) rfl (by kernel_rfl) (by kernel_rfl))) (h := ?_)
      refine W.as (v := .slice A23 ((bpOf (bestR ps vs s id cs)).length) c24) (h := ?_)
      refine W.as (v := .int .i64 (ltOf (bestR ps vs s id cs))) (h := ?_)
      refine W.as (v := .bool ((bestR ps vs s id cs).isSome)) (h := ?_)
      refine W.endF 42 [(0, .agg #[.int .i64 m, .slice A n c]), (1, .slice A2 n2 c2), (2, .int .i64 s), (3, .int .i64 id), (4, .slice A4 n4 c4), (5, .pointer (some ⟨b2, 0, none⟩)), (10, .slice none 0 0), (11, .int .i64 0), (12, .bool false), (13, .slice A23 ((bpOf (bestR ps vs s id cs)).length) c24), (14, .int .i64 (ltOf (bestR ps vs s id cs))), (15, .bool ((bestR ps vs s id cs).isSome)), (27, .bool false)] (fun U33 => ?_)
      have x6 := SG.blk s31 x6 (by simp)
      have c34 := (SG.belowR c21 s31 (fun kq e => by cases e))
      refine h4 _ _ ?_
      refine wp_seq_k (fun K5 h5 => ?_)
      refine wp_seq_k (fun K6 h6 => ?_)
      refine W.region_quiet [(0, false), (1, false)] (by kernel_rfl) ?_
      refine W.mv (v := .bool ((bestR ps vs s id cs).isSome)) (h := ?_)
      refine W.q (v := .bool (!((bestR ps vs s id cs).isSome))) (hr := (r_not (b := ((bestR ps vs s id cs).isSome)) rfl (by kernel_rfl) rfl)) (h := ?_)
      refine W.endF 42 [(0, .agg #[.int .i64 m, .slice A n c]), (1, .slice A2 n2 c2), (2, .int .i64 s), (3, .int .i64 id), (4, .slice A4 n4 c4), (5, .pointer (some ⟨b2, 0, none⟩)), (10, .slice none 0 0), (11, .int .i64 0), (12, .bool false), (13, .slice A23 ((bpOf (bestR ps vs s id cs)).length) c24), (14, .int .i64 (ltOf (bestR ps vs s id cs))), (15, .bool ((bestR ps vs s id cs).isSome)), (27, .bool false), (39, .bool (!((bestR ps vs s id cs).isSome)))] (fun U35 => ?_)
      refine h6 _ _ ?_
      rcases Bool.eq_false_or_eq_true (!((bestR ps vs s id cs).isSome)) with q36 | q36
      · rw [q36]
        refine wp_cond_true (by kernel_rfl) ?_
        refine wp_seq_k (fun K7 h7 => ?_)
        refine W.region_quiet [(0, false), (1, false), (2, false)] (by kernel_rfl) ?_
        refine W.as (v := .slice none 0 0) (h := ?_)
        refine W.as (v := .int .i64 0) (h := ?_)
        refine W.as (v := .bool false) (h := ?_)
        refine W.endF 42 [(0, .agg #[.int .i64 m, .slice A n c]), (1, .slice A2 n2 c2), (2, .int .i64 s), (3, .int .i64 id), (4, .slice A4 n4 c4), (5, .pointer (some ⟨b2, 0, none⟩)), (10, .slice none 0 0), (11, .int .i64 0), (12, .bool false), (13, .slice A23 ((bpOf (bestR ps vs s id cs)).length) c24), (14, .int .i64 (ltOf (bestR ps vs s id cs))), (15, .bool ((bestR ps vs s id cs).isSome)), (27, .bool false), (39, .bool true)] (fun U37 => ?_)
        refine h7 _ _ ?_
        refine wp_ret ?_
        try simp only [Exit.then]
        refine ret3 (v := .slice none 0 0) (x := .int .i64 0) (y := .bool false) rfl (by kernel_rfl) (by kernel_rfl) (by kernel_rfl) ?_
        have e7 : (bestR ps vs s id cs).isSome = false := (by have h9 := q36; rw [Bool.not_eq_true'] at h9; exact h9)
        have e8 : GentlestPlan_v2 m ps vs s id cs = false := by unfold GentlestPlan_v2; rw [q15, q19, e7]; rfl
        exact fin_ints3 (zs := []) (World.ownsRow_nil _ _ _ _) (by unfold GentlestPlan_v0; rw [if_neg (by rw [e8]; simp)]) (by unfold GentlestPlan_v1; rw [if_neg (by rw [e8]; simp)]) e8.symm c34
      · rw [q36]
        refine wp_cond_false (by kernel_rfl) ?_
        refine wp_skip ?_
        refine h5 _ _ ?_
        refine wp_seq_k (fun K8 h8 => ?_)
        refine W.region_quiet [(0, false), (1, false), (2, false), (3, false), (4, false)] (by kernel_rfl) ?_
        refine W.mv (v := .slice A23 ((bpOf (bestR ps vs s id cs)).length) c24) (h := ?_)
        refine W.mv (v := .int .i64 (ltOf (bestR ps vs s id cs))) (h := ?_)
        refine W.as (v := .slice A23 ((bpOf (bestR ps vs s id cs)).length) c24) (h := ?_)
        refine W.as (v := .int .i64 (ltOf (bestR ps vs s id cs))) (h := ?_)
        refine W.as (v := .bool true) (h := ?_)
        refine W.endF 42 [(0, .agg #[.int .i64 m, .slice A n c]), (1, .slice A2 n2 c2), (2, .int .i64 s), (3, .int .i64 id), (4, .slice A4 n4 c4), (5, .pointer (some ⟨b2, 0, none⟩)), (10, .slice A23 ((bpOf (bestR ps vs s id cs)).length) c24), (11, .int .i64 (ltOf (bestR ps vs s id cs))), (12, .bool true), (13, .slice A23 ((bpOf (bestR ps vs s id cs)).length) c24), (14, .int .i64 (ltOf (bestR ps vs s id cs))), (15, .bool ((bestR ps vs s id cs).isSome)), (27, .bool false), (39, .bool false)] (fun U38 => ?_)
        refine h8 _ _ ?_
        refine wp_ret ?_
        try simp only [Exit.then]
        refine ret3 (v := .slice A23 ((bpOf (bestR ps vs s id cs)).length) c24) (x := .int .i64 (ltOf (bestR ps vs s id cs))) (y := .bool true) rfl (by kernel_rfl) (by kernel_rfl) (by kernel_rfl) ?_
        have e7 : (bestR ps vs s id cs).isSome = true := (by have h9 := q36; rw [Bool.not_eq_false'] at h9; exact h9)
        have e8 : GentlestPlan_v2 m ps vs s id cs = true := by unfold GentlestPlan_v2; rw [q15, q19, e7]; rfl
        exact fin_ints3  ho26 (by unfold GentlestPlan_v0; rw [if_pos e8] <;> first | done | rfl) (by unfold GentlestPlan_v1; rw [if_pos e8] <;> first | done | rfl) e8.symm c34
    · rw [q19]
      refine W.q (v := .bool true) (hr := (r_not (b := false) rfl (by kernel_rfl) rfl)) (h := ?_)
      refine W.q (v := .bool true) (hr := (r_pick (b := false) rfl (by kernel_rfl) (by kernel_rfl))) (h := ?_)
      refine W.endF 42 [(0, .agg #[.int .i64 m, .slice A n c]), (1, .slice A2 n2 c2), (2, .int .i64 s), (3, .int .i64 id), (4, .slice A4 n4 c4), (5, .pointer (some ⟨b2, 0, none⟩)), (10, .slice none 0 0), (11, .int .i64 0), (12, .bool false), (27, .bool true)] (fun U39 => ?_)
      have x6 := SG.blk s18 x6 (by simp)
      have c40 := (SG.belowR c10 s18 (fun kq e => by cases e))
      refine h3 _ _ ?_
      refine wp_cond_true (by kernel_rfl) ?_
      refine wp_seq_k (fun K9 h9 => ?_)
      refine W.region_quiet [(0, false), (1, false), (2, false)] (by kernel_rfl) ?_
      refine W.as (v := .slice none 0 0) (h := ?_)
      refine W.as (v := .int .i64 0) (h := ?_)
      refine W.as (v := .bool false) (h := ?_)
      refine W.endF 42 [(0, .agg #[.int .i64 m, .slice A n c]), (1, .slice A2 n2 c2), (2, .int .i64 s), (3, .int .i64 id), (4, .slice A4 n4 c4), (5, .pointer (some ⟨b2, 0, none⟩)), (10, .slice none 0 0), (11, .int .i64 0), (12, .bool false), (27, .bool true)] (fun U41 => ?_)
      refine h9 _ _ ?_
      refine wp_ret ?_
      try simp only [Exit.then]
      refine ret3 (v := .slice none 0 0) (x := .int .i64 0) (y := .bool false) rfl (by kernel_rfl) (by kernel_rfl) (by kernel_rfl) ?_
      have e8 : GentlestPlan_v2 m ps vs s id cs = false := by unfold GentlestPlan_v2; rw [q19, Bool.false_and, Bool.and_false]
      exact fin_ints3 (zs := []) (World.ownsRow_nil _ _ _ _) (by unfold GentlestPlan_v0; rw [if_neg (by rw [e8]; simp)]) (by unfold GentlestPlan_v1; rw [if_neg (by rw [e8]; simp)]) e8.symm c40
  · rw [q15]
    refine W.q (v := .bool true) (hr := (r_not (b := false) rfl (by kernel_rfl) rfl)) (h := ?_)
    refine W.mv (v := .bool true) (h := ?_)
    refine W.sp s14 (h := ?_)
    refine W.sp s14 (h := ?_)
    refine W.sp s14 (h := ?_)
    refine W.sp s14 (h := ?_)
    refine W.q (v := .bool true) (hr := (r_pick (b := true) rfl (by kernel_rfl) (by kernel_rfl))) (h := ?_)
    refine W.endF 42 [(0, .agg #[.int .i64 m, .slice A n c]), (1, .slice A2 n2 c2), (2, .int .i64 s), (3, .int .i64 id), (4, .slice A4 n4 c4), (5, .pointer (some ⟨b2, 0, none⟩)), (10, .slice none 0 0), (11, .int .i64 0), (12, .bool false), (27, .bool true)] (fun U42 => ?_)
    have x6 := SG.blk s14 x6 (by simp)
    have c43 := (SG.belowR c10 s14 (fun kq e => by cases e))
    refine h3 _ _ ?_
    refine wp_cond_true (by kernel_rfl) ?_
    refine wp_seq_k (fun K10 h10 => ?_)
    refine W.region_quiet [(0, false), (1, false), (2, false)] (by kernel_rfl) ?_
    refine W.as (v := .slice none 0 0) (h := ?_)
    refine W.as (v := .int .i64 0) (h := ?_)
    refine W.as (v := .bool false) (h := ?_)
    refine W.endF 42 [(0, .agg #[.int .i64 m, .slice A n c]), (1, .slice A2 n2 c2), (2, .int .i64 s), (3, .int .i64 id), (4, .slice A4 n4 c4), (5, .pointer (some ⟨b2, 0, none⟩)), (10, .slice none 0 0), (11, .int .i64 0), (12, .bool false), (27, .bool true)] (fun U44 => ?_)
    refine h10 _ _ ?_
    refine wp_ret ?_
    try simp only [Exit.then]
    refine ret3 (v := .slice none 0 0) (x := .int .i64 0) (y := .bool false) rfl (by kernel_rfl) (by kernel_rfl) (by kernel_rfl) ?_
    have e8 : GentlestPlan_v2 m ps vs s id cs = false := by unfold GentlestPlan_v2; rw [q15]; rfl
    exact fin_ints3 (zs := []) (World.ownsRow_nil _ _ _ _) (by unfold GentlestPlan_v0; rw [if_neg (by rw [e8]; simp)]) (by unfold GentlestPlan_v1; rw [if_neg (by rw [e8]; simp)]) e8.symm c43

set_option maxRecDepth 100000 in
set_option maxHeartbeats 1000000 in
theorem GentlestPlan_spec (m : Int) (A : Option Addr) (n c : Nat) (ps : List Pp) (A2 : Option Addr) (n2 c2 : Nat) (vs : List Vv) (s id : Int) (A4 : Option Addr) (n4 c4 : Nat) (cs : List Int) (w : World) (ha : Rd w 4 A n (pipesV ps)) (hb : Rd w 4 A2 n2 (valvesV vs)) (hc4 : Rd w 1 A4 n4 (intsV cs)) (hn : n ≤ 1048576) (hn2 : n2 ≤ 1048576) (hn4 : n4 ≤ 1048576) (hfm : Fm A n c) (hfm2 : Fm A2 n2 c2) (hfc : Fm A4 n4 c4) :
    Calls Try.prog 31 #[.agg #[.int .i64 m, .slice A n c], .slice A2 n2 c2, .int .i64 s, .int .i64 id, .slice A4 n4 c4] w fun e w' => ∃ A' d, e = .returned (.tuple #[.slice A' (GentlestPlan_v0 m ps vs s id cs).length d, .int .i64 (GentlestPlan_v1 m ps vs s id cs), .bool (GentlestPlan_v2 m ps vs s id cs)]) ∧ Rd w' 1 A' (GentlestPlan_v0 m ps vs s id cs).length (intsV (GentlestPlan_v0 m ps vs s id cs)) ∧ Below w.heap.size w w' := by
  have hl := rd_pipes_len ha
  have hl2 := rd_valves_len hb
  have hl4 := rd_ints_len hc4
  have hfl := findL_lt ps id
  go_enter Try.func31, Try.ntmps31
  refine wp_seq_k (fun K1 h1 => ?_)
  refine W.region_plain (row := none) [(0, true), (1, false), (2, false), (3, false)] (by kernel_rfl) ?_
  have s1 := SG.self w none
  refine W.sn (fun b => .pointer (some ⟨b, 0, none⟩)) #[.int .i64 m, .slice A n c] 32 s1 rfl (by kernel_rfl) rfl (fun _ => by kernel_rfl) (fun b2 w3 hb4 k5 x6 s7 => ?_)
  have lo8 : w.heap.size ≤ b2 := by have := ((SG.belowR (Below.refl _ _) s1 (fun kq e => by cases e))).size; omega
  refine W.as (v := .slice none 0 0) (h := ?_)
  refine W.as (v := .int .i64 0) (h := ?_)
  refine W.as (v := .bool false) (h := ?_)
  refine W.endF 42 [(0, .agg #[.int .i64 m, .slice A n c]), (1, .slice A2 n2 c2), (2, .int .i64 s), (3, .int .i64 id), (4, .slice A4 n4 c4), (5, .pointer (some ⟨b2, 0, none⟩)), (10, .slice none 0 0), (11, .int .i64 0), (12, .bool false)] (fun U9 => ?_)
  have c10 := (SG.belowR (Below.refl _ _) s7 (fun kq e => by cases e))
  refine h1 _ _ ?_
  refine wp_seq_k (fun K2 h2 => ?_)
  refine wp_seq_k (fun K3 h3 => ?_)
  refine W.region_plain (row := none) [(0, false), (1, false), (2, false), (3, false), (4, true), (5, false), (6, false), (7, false), (8, false), (9, true), (10, false), (11, false)] (by kernel_rfl) ?_
  have s11 := SG.self w3 none
  refine W.q (v := .agg #[.int .i64 m, .slice A n c]) (hr := (r_load2 rfl (by kernel_rfl) (by kernel_rfl) (by kernel_rfl) (sgS (blk_cell (j := 0) x6 (by kernel_rfl)) (by simp)) (sgS (blk_cell (j := 1) x6 (by kernel_rfl)) (by simp)))) (h := ?_)
  refine W.mv (v := .slice A2 n2 c2) (h := ?_)
  refine W.mv (v := .int .i64 s) (h := ?_)
  refine W.mv (v := .int .i64 id) (h := ?_)
  refine W.sc (vs := [.agg #[.int .i64 m, .slice A n c], .slice A2 n2 c2, .int .i64 s, .int .i64 id]) rfl rfl (by kernel_rfl) (by kernel_rfl) (by kernel_rfl) rfl (l5Asked_any m A n c ps A2 n2 c2 vs s id _ (Rd.kept ha (SG.belowR c10 s11 (fun kq e => by cases e))) (Rd.kept hb (SG.belowR c10 s11 (fun kq e => by cases e))) (by omega) (by omega) hfm2) ?_
  rintro e w13 ⟨rfl, b12⟩
  have s14 := SG.of_below s11 b12
  refine ⟨_, rfl, s14, ?_⟩
  rcases Bool.eq_false_or_eq_true (canB m ps vs s id) with q15 | q15
  · rw [q15]
    obtain ⟨hv9, hs, hfa⟩ := canB_of q15
    have hg := hv9.net
    have hgl := hg.lo
    have hgh := hg.hi
    have hp := hg.pipesIn
    have hlen10 := hg.len
    have hu := hv9.uniq
    have hvl := hv9.len
    refine W.q (v := .bool false) (hr := (r_not (b := true) rfl (by kernel_rfl) rfl)) (h := ?_)
    refine W.mv (v := .bool false) (h := ?_)
    refine W.q (v := .agg #[.int .i64 m, .slice A n c]) (hr := (r_load2 rfl (by kernel_rfl) (by kernel_rfl) (by kernel_rfl) (sgS (blk_cell (j := 0) x6 (by kernel_rfl)) (by simp)) (sgS (blk_cell (j := 1) x6 (by kernel_rfl)) (by simp)))) (h := ?_)
    refine W.mv (v := .slice A4 n4 c4) (h := ?_)
    refine W.sc (vs := [.agg #[.int .i64 m, .slice A n c], .slice A4 n4 c4]) rfl rfl (by kernel_rfl) (by kernel_rfl) (by kernel_rfl) rfl (l5Customers_any m A n c ps A4 n4 c4 cs _ (Rd.kept ha (SG.belowR c10 s14 (fun kq e => by cases e))) (by omega) (Rd.kept hc4 (SG.belowR c10 s14 (fun kq e => by cases e))) (by omega)) ?_
    rintro e w17 ⟨rfl, b16⟩
    have s18 := SG.of_below s14 b16
    refine ⟨_, rfl, s18, ?_⟩
    rcases Bool.eq_false_or_eq_true (custOk m cs) with q19 | q19
    · rw [q19]
      have hco := q19
      have hco9 := custOk_of hco
      refine W.q (v := .bool false) (hr := (r_not (b := true) rfl (by kernel_rfl) rfl)) (h := ?_)
      refine W.q (v := .bool false) (hr := (r_pick (b := false) rfl (by kernel_rfl) (by kernel_rfl))) (h := ?_)
      refine W.endF 42 [(0, .agg #[.int .i64 m, .slice A n c]), (1, .slice A2 n2 c2), (2, .int .i64 s), (3, .int .i64 id), (4, .slice A4 n4 c4), (5, .pointer (some ⟨b2, 0, none⟩)), (10, .slice none 0 0), (11, .int .i64 0), (12, .bool false), (26, .bool false)] (fun U20 => ?_)
      have x6 := SG.blk s18 x6 (by simp)
      have c21 := (SG.belowR c10 s18 (fun kq e => by cases e))
      refine h3 _ _ ?_
      refine wp_cond_false (by kernel_rfl) ?_
      refine wp_skip ?_
      refine h2 _ _ ?_
      refine wp_seq_k (fun K4 h4 => ?_)
      refine W.region_plain (row := none) [(0, false), (1, false), (2, false), (3, false), (4, false), (5, true), (6, false), (7, false), (8, false), (9, false), (10, false)] (by kernel_rfl) ?_
      have s22 := SG.self w17 none
      refine W.q (v := .agg #[.int .i64 m, .slice A n c]) (hr := (r_load2 rfl (by kernel_rfl) (by kernel_rfl) (by kernel_rfl) (sgS (blk_cell (j := 0) x6 (by kernel_rfl)) (by simp)) (sgS (blk_cell (j := 1) x6 (by kernel_rfl)) (by simp)))) (h := ?_)
      refine W.mv (v := .slice A2 n2 c2) (h := ?_)
      refine W.mv (v := .int .i64 s) (h := ?_)
      refine W.mv (v := .int .i64 id) (h := ?_)
      refine W.mv (v := .slice A4 n4 c4) (h := ?_)
      have z28 := ((SG.belowR c21 s22 (fun kq e => by cases e))).size
      refine W.sc (vs := [.agg #[.int .i64 m, .slice A n c], .slice A2 n2 c2, .int .i64 s, .int .i64 id, .slice A4 n4 c4]) rfl rfl (by kernel_rfl) (by kernel_rfl) (by kernel_rfl) rfl (l5Best_any m A n c ps A2 n2 c2 vs s id A4 n4 c4 cs _ (Rd.kept ha (SG.belowR c21 s22 (fun kq e => by cases e))) (Rd.kept hb (SG.belowR c21 s22 (fun kq e => by cases e))) (by omega) (by omega) hfm2 hv9 hs hfa (Rd.kept hc4 (SG.belowR c21 s22 (fun kq e => by cases e))) (by omega) hco9.2 (.inr hco)) ?_
      rintro e w31 ⟨A23, n24, c25, rfl, ho26, b30⟩
      have s32 := SG.of_below s22 b30
      refine ⟨_, rfl, s32, ?_⟩
      have nb33 : Nb b2 (.slice A23 n24 c25) := nb_lo ho26 (Nat.lt_of_lt_of_le (blk_lt x6) (World.grownBy.size s22))
      have ho27 := own_base (base' := w.heap.size) ho26 z28
      refine W.mv (v := .tuple #[.slice A23 n24 c25, .int .i64 (leastOf (bestR ps vs s id cs))]) (h := ?_)
      refine W.q (v := .slice A23 n24 c25) (hr := (r_extract (vs := #[.slice A23 n24 c25, .int .i64 (leastOf (bestR ps vs s id cs))]) rfl (by kernel_rfl) (by kernel_rfl))) (h := ?_)
      refine W.q (v := .int .i64 (leastOf (bestR ps vs s id cs))) (hr := (r_extract (vs := #[.slice A23 n24 c25, .int .i64 (leastOf (bestR ps vs s id cs))]) rfl (by kernel_rfl) (by kernel_rfl))) (h := ?_)
      refine W.as (v := .slice A23 n24 c25) (h := ?_)
      refine W.as (v := .int .i64 (leastOf (bestR ps vs s id cs))) (h := ?_)
      refine W.endF 42 [(0, .agg #[.int .i64 m, .slice A n c]), (1, .slice A2 n2 c2), (2, .int .i64 s), (3, .int .i64 id), (4, .slice A4 n4 c4), (5, .pointer (some ⟨b2, 0, none⟩)), (10, .slice none 0 0), (11, .int .i64 0), (12, .bool false), (13, .slice A23 n24 c25), (14, .int .i64 (leastOf (bestR ps vs s id cs))), (26, .bool false)] (fun U34 => ?_)
      have x6 := SG.blk s32 x6 (by simp)
      have c35 := (SG.belowR c21 s32 (fun kq e => by cases e))
      refine h4 _ _ ?_
      refine wp_seq_k (fun K5 h5 => ?_)
      refine wp_seq_k (fun K6 h6 => ?_)
      refine W.region_quiet [(0, false), (1, false)] (by kernel_rfl) ?_
      refine W.mv (v := .int .i64 (leastOf (bestR ps vs s id cs))) (h := ?_)
      by_cases q36 : ((leastOf (bestR ps vs s id cs)) : Int) < (0 : Int)
      · refine W.q (v := .bool true) (hr := (r_lss (m := (leastOf (bestR ps vs s id cs))) (n := 0) rfl (by kernel_rfl) (by kernel_rfl) (decide_eq_true q36))) (h := ?_)
        refine W.endF 42 [(0, .agg #[.int .i64 m, .slice A n c]), (1, .slice A2 n2 c2), (2, .int .i64 s), (3, .int .i64 id), (4, .slice A4 n4 c4), (5, .pointer (some ⟨b2, 0, none⟩)), (10, .slice none 0 0), (11, .int .i64 0), (12, .bool false), (13, .slice A23 n24 c25), (14, .int .i64 (leastOf (bestR ps vs s id cs))), (26, .bool false), (38, .bool true)] (fun U37 => ?_)
        refine h6 _ _ ?_
        refine wp_cond_true (by kernel_rfl) ?_
        refine wp_seq_k (fun K7 h7 => ?_)
        refine W.region_plain (row := none) [(0, true), (1, false), (2, false), (3, false)] (by kernel_rfl) ?_
        have s38 := SG.self w31 none
        refine W.sn (fun b => .slice (some ⟨b, 0, none⟩) 0 0) #[] 3 s38 rfl (by kernel_rfl) rfl (fun _ => by kernel_rfl) (fun b39 w40 hb41 k42 x43 s44 => ?_)
        have lo45 : w.heap.size ≤ b39 := by have := ((SG.belowR c35 s38 (fun kq e => by cases e))).size; omega
        have ne46 : b2 ≠ b39 := by have := blk_lt x6; have := World.grownBy.size s38; omega
        have nb47 : Nb b39 (.slice A23 n24 c25) := nb_hi ho27 (Nat.le_of_eq hb41)
        have ho48 := own_kept ho27 k42
        refine W.as (v := .slice (some ⟨b39, 0, none⟩) 0 0) (h := ?_)
        refine W.as (v := .int .i64 0) (h := ?_)
        refine W.as (v := .bool false) (h := ?_)
        refine W.endF 42 [(0, .agg #[.int .i64 m, .slice A n c]), (1, .slice A2 n2 c2), (2, .int .i64 s), (3, .int .i64 id), (4, .slice A4 n4 c4), (5, .pointer (some ⟨b2, 0, none⟩)), (10, .slice (some ⟨b39, 0, none⟩) 0 0), (11, .int .i64 0), (12, .bool false), (13, .slice A23 n24 c25), (14, .int .i64 (leastOf (bestR ps vs s id cs))), (26, .bool false), (38, .bool true)] (fun U49 => ?_)
        have x6 := SG.blk s44 x6 (by simp)
        have c50 := (SG.belowR c35 s44 (fun kq e => by cases e))
        refine h7 _ _ ?_
        refine wp_ret ?_
        try simp only [Exit.then]
        refine ret3 (v := .slice (some ⟨b39, 0, none⟩) 0 0) (x := .int .i64 0) (y := .bool false) rfl (by kernel_rfl) (by kernel_rfl) (by kernel_rfl) ?_
        have ho51 := own_empty (base := w.heap.size) (size := 1) x43 lo45
        replace ho51 : World.ownsRow _ _ _ _ _ _ (intsV []) := ho51
        have nr52 : NbR (.slice (some ⟨b39, 0, none⟩) 0 0) (.slice A23 n24 c25) := nbr_new nb47
        have nb53 : Nb b2 (.slice (some ⟨b39, 0, none⟩) 0 0) := nb_new (by have := ne46; omega)
        have e7 : (bestR ps vs s id cs).isSome = false := least_no hco9.2 (by omega)
        have e8 : GentlestPlan_v2 m ps vs s id cs = false := by unfold GentlestPlan_v2; rw [q15, q19, e7]; rfl
        exact fin_rd3 (zs := []) (own_rd ho51) (by unfold GentlestPlan_v0; rw [if_neg (by rw [e8]; simp)]) (by unfold GentlestPlan_v1; rw [if_neg (by rw [e8]; simp)]) e8.symm c50
      · refine W.q (v := .bool false) (hr := (r_lss (m := (leastOf (bestR ps vs s id cs))) (n := 0) rfl (by kernel_rfl) (by kernel_rfl) (decide_eq_false q36))) (h := ?_)
        refine W.endF 42 [(0, .agg #[.int .i64 m, .slice A n c]), (1, .slice A2 n2 c2), (2, .int .i64 s), (3, .int .i64 id), (4, .slice A4 n4 c4), (5, .pointer (some ⟨b2, 0, none⟩)), (10, .slice none 0 0), (11, .int .i64 0), (12, .bool false), (13, .slice A23 n24 c25), (14, .int .i64 (leastOf (bestR ps vs s id cs))), (26, .bool false), (38, .bool false)] (fun U54 => ?_)
        refine h6 _ _ ?_
        refine wp_cond_false (by kernel_rfl) ?_
        refine wp_skip ?_
        refine h5 _ _ ?_
        refine wp_seq_k (fun K8 h8 => ?_)
        refine W.region_quiet [(0, false), (1, false), (2, false), (3, false), (4, false)] (by kernel_rfl) ?_
        refine W.mv (v := .slice A23 n24 c25) (h := ?_)
        refine W.mv (v := .int .i64 (leastOf (bestR ps vs s id cs))) (h := ?_)
        refine W.as (v := .slice A23 n24 c25) (h := ?_)
        refine W.as (v := .int .i64 (leastOf (bestR ps vs s id cs))) (h := ?_)
        refine W.as (v := .bool true) (h := ?_)
        refine W.endF 42 [(0, .agg #[.int .i64 m, .slice A n c]), (1, .slice A2 n2 c2), (2, .int .i64 s), (3, .int .i64 id), (4, .slice A4 n4 c4), (5, .pointer (some ⟨b2, 0, none⟩)), (10, .slice A23 n24 c25), (11, .int .i64 (leastOf (bestR ps vs s id cs))), (12, .bool true), (13, .slice A23 n24 c25), (14, .int .i64 (leastOf (bestR ps vs s id cs))), (26, .bool false), (38, .bool false)] (fun U55 => ?_)
        refine h8 _ _ ?_
        refine wp_ret ?_
        try simp only [Exit.then]
        refine ret3 (v := .slice A23 n24 c25) (x := .int .i64 (leastOf (bestR ps vs s id cs))) (y := .bool true) rfl (by kernel_rfl) (by kernel_rfl) (by kernel_rfl) ?_
        have e7 : (bestR ps vs s id cs).isSome = true := least_yes (by omega)
        have e8 : GentlestPlan_v2 m ps vs s id cs = true := by unfold GentlestPlan_v2; rw [q15, q19, e7]; rfl
        exact fin_rd3  (own_rd ho27) (by unfold GentlestPlan_v0; rw [if_pos e8] <;> first | done | rfl) (by unfold GentlestPlan_v1; rw [if_pos e8]; exact lt_some e7) e8.symm c35
    · rw [q19]
      refine W.q (v := .bool true) (hr := (r_not (b := false) rfl (by kernel_rfl) rfl)) (h := ?_)
      refine W.q (v := .bool true) (hr := (r_pick (b := false) rfl (by kernel_rfl) (by kernel_rfl))) (h := ?_)
      refine W.endF 42 [(0, .agg #[.int .i64 m, .slice A n c]), (1, .slice A2 n2 c2), (2, .int .i64 s), (3, .int .i64 id), (4, .slice A4 n4 c4), (5, .pointer (some ⟨b2, 0, none⟩)), (10, .slice none 0 0), (11, .int .i64 0), (12, .bool false), (26, .bool true)] (fun U56 => ?_)
      have x6 := SG.blk s18 x6 (by simp)
      have c57 := (SG.belowR c10 s18 (fun kq e => by cases e))
      refine h3 _ _ ?_
      refine wp_cond_true (by kernel_rfl) ?_
      refine wp_seq_k (fun K9 h9 => ?_)
      refine W.region_plain (row := none) [(0, true), (1, false), (2, false), (3, false)] (by kernel_rfl) ?_
      have s58 := SG.self w17 none
      refine W.sn (fun b => .slice (some ⟨b, 0, none⟩) 0 0) #[] 3 s58 rfl (by kernel_rfl) rfl (fun _ => by kernel_rfl) (fun b59 w60 hb61 k62 x63 s64 => ?_)
      have lo65 : w.heap.size ≤ b59 := by have := ((SG.belowR c57 s58 (fun kq e => by cases e))).size; omega
      have ne66 : b2 ≠ b59 := by have := blk_lt x6; have := World.grownBy.size s58; omega
      refine W.as (v := .slice (some ⟨b59, 0, none⟩) 0 0) (h := ?_)
      refine W.as (v := .int .i64 0) (h := ?_)
      refine W.as (v := .bool false) (h := ?_)
      refine W.endF 42 [(0, .agg #[.int .i64 m, .slice A n c]), (1, .slice A2 n2 c2), (2, .int .i64 s), (3, .int .i64 id), (4, .slice A4 n4 c4), (5, .pointer (some ⟨b2, 0, none⟩)), (10, .slice (some ⟨b59, 0, none⟩) 0 0), (11, .int .i64 0), (12, .bool false), (26, .bool true)] (fun U67 => ?_)
      have x6 := SG.blk s64 x6 (by simp)
      have c68 := (SG.belowR c57 s64 (fun kq e => by cases e))
      refine h9 _ _ ?_
      refine wp_ret ?_
      try simp only [Exit.then]
      refine ret3 (v := .slice (some ⟨b59, 0, none⟩) 0 0) (x := .int .i64 0) (y := .bool false) rfl (by kernel_rfl) (by kernel_rfl) (by kernel_rfl) ?_
      have ho69 := own_empty (base := w.heap.size) (size := 1) x63 lo65
      replace ho69 : World.ownsRow _ _ _ _ _ _ (intsV []) := ho69
      have nb70 : Nb b2 (.slice (some ⟨b59, 0, none⟩) 0 0) := nb_new (by have := ne66; omega)
      have e8 : GentlestPlan_v2 m ps vs s id cs = false := by unfold GentlestPlan_v2; rw [q19, Bool.false_and, Bool.and_false]
      exact fin_rd3 (zs := []) (own_rd ho69) (by unfold GentlestPlan_v0; rw [if_neg (by rw [e8]; simp)]) (by unfold GentlestPlan_v1; rw [if_neg (by rw [e8]; simp)]) e8.symm c68
  · rw [q15]
    refine W.q (v := .bool true) (hr := (r_not (b := false) rfl (by kernel_rfl) rfl)) (h := ?_)
    refine W.mv (v := .bool true) (h := ?_)
    refine W.sp s14 (h := ?_)
    refine W.sp s14 (h := ?_)
    refine W.sp s14 (h := ?_)
    refine W.sp s14 (h := ?_)
    refine W.q (v := .bool true) (hr := (r_pick (b := true) rfl (by kernel_rfl) (by kernel_rfl))) (h := ?_)
    refine W.endF 42 [(0, .agg #[.int .i64 m, .slice A n c]), (1, .slice A2 n2 c2), (2, .int .i64 s), (3, .int .i64 id), (4, .slice A4 n4 c4), (5, .pointer (some ⟨b2, 0, none⟩)), (10, .slice none 0 0), (11, .int .i64 0), (12, .bool false), (26, .bool true)] (fun U71 => ?_)
    have x6 := SG.blk s14 x6 (by simp)
    have c72 := (SG.belowR c10 s14 (fun kq e => by cases e))
    refine h3 _ _ ?_
    refine wp_cond_true (by kernel_rfl) ?_
    refine wp_seq_k (fun K10 h10 => ?_)
    refine W.region_plain (row := none) [(0, true), (1, false), (2, false), (3, false)] (by kernel_rfl) ?_
    have s73 := SG.self w13 none
    refine W.sn (fun b => .slice (some ⟨b, 0, none⟩) 0 0) #[] 3 s73 rfl (by kernel_rfl) rfl (fun _ => by kernel_rfl) (fun b74 w75 hb76 k77 x78 s79 => ?_)
    have lo80 : w.heap.size ≤ b74 := by have := ((SG.belowR c72 s73 (fun kq e => by cases e))).size; omega
    have ne81 : b2 ≠ b74 := by have := blk_lt x6; have := World.grownBy.size s73; omega
    refine W.as (v := .slice (some ⟨b74, 0, none⟩) 0 0) (h := ?_)
    refine W.as (v := .int .i64 0) (h := ?_)
    refine W.as (v := .bool false) (h := ?_)
    refine W.endF 42 [(0, .agg #[.int .i64 m, .slice A n c]), (1, .slice A2 n2 c2), (2, .int .i64 s), (3, .int .i64 id), (4, .slice A4 n4 c4), (5, .pointer (some ⟨b2, 0, none⟩)), (10, .slice (some ⟨b74, 0, none⟩) 0 0), (11, .int .i64 0), (12, .bool false), (26, .bool true)] (fun U82 => ?_)
    have x6 := SG.blk s79 x6 (by simp)
    have c83 := (SG.belowR c72 s79 (fun kq e => by cases e))
    refine h10 _ _ ?_
    refine wp_ret ?_
    try simp only [Exit.then]
    refine ret3 (v := .slice (some ⟨b74, 0, none⟩) 0 0) (x := .int .i64 0) (y := .bool false) rfl (by kernel_rfl) (by kernel_rfl) (by kernel_rfl) ?_
    have ho84 := own_empty (base := w.heap.size) (size := 1) x78 lo80
    replace ho84 : World.ownsRow _ _ _ _ _ _ (intsV []) := ho84
    have nb85 : Nb b2 (.slice (some ⟨b74, 0, none⟩) 0 0) := nb_new (by have := ne81; omega)
    have e8 : GentlestPlan_v2 m ps vs s id cs = false := by unfold GentlestPlan_v2; rw [q15]; rfl
    exact fin_rd3 (zs := []) (own_rd ho84) (by unfold GentlestPlan_v0; rw [if_neg (by rw [e8]; simp)]) (by unfold GentlestPlan_v1; rw [if_neg (by rw [e8]; simp)]) e8.symm c83

end Go.Proofs.Ytnfmdkbelbppdaa
