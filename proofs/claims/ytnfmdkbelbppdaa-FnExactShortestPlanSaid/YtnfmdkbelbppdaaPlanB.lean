/- The shortest plans: both packages answer alike. -/
import Derived.Test.YtnfmdkbelbppdaaBestC
namespace Go.Proofs.Ytnfmdkbelbppdaa
open Go.RowKit
set_option linter.unusedVariables false
set_option linter.unusedSimpArgs false

noncomputable def ShortestPlan_v1 (m : Int) (ps : List Pp) (vs : List Vv) (s id : Int) : Bool := canB m ps vs s id && (bestR ps vs s id []).isSome
noncomputable def ShortestPlan_v0 (m : Int) (ps : List Pp) (vs : List Vv) (s id : Int) : List Int := if ShortestPlan_v1 m ps vs s id = true then bpOf (bestR ps vs s id []) else []
theorem ShortestPlan_len (m : Int) (ps : List Pp) (vs : List Vv) (s id : Int) : (ShortestPlan_v0 m ps vs s id).length ≤ 1048576 := by
  unfold ShortestPlan_v0
  split
  · rename_i h
    have hc : canB m ps vs s id = true := by unfold ShortestPlan_v1 at h; rw [Bool.and_eq_true] at h; exact h.1
    have h8 := (canB_of hc).1.len
    have h9 := bestP_len (ps := ps) (s := s) (id := id) (h := harmL ps vs s []) (canB_of hc).1.len
    unfold bestR; omega
  · simp

set_option maxRecDepth 100000 in
set_option maxHeartbeats 1000000 in
theorem shortF_any (A3 : Option Addr) (n3 c3 : Nat) (w : World) :
    Calls Try.prog 65 #[.slice A3 n3 c3] w fun e w' => e = .returned (.int .i64 0) ∧ Below w.heap.size w w' := by
  go_enter Try.func65, Try.ntmps65
  refine wp_seq_k (fun K1 h1 => ?_)
  refine W.region_quiet [(0, false)] (by kernel_rfl) ?_
  refine W.as (v := .int .i64 0) (h := ?_)
  refine W.endF 3 [(2, .int .i64 0)] (fun U1 => ?_)
  refine h1 _ _ ?_
  refine wp_seq_k (fun K2 h2 => ?_)
  refine W.region_quiet [(0, false)] (by kernel_rfl) ?_
  refine W.as (v := .int .i64 0) (h := ?_)
  refine W.endF 3 [(2, .int .i64 0)] (fun U2 => ?_)
  refine h2 _ _ ?_
  refine wp_ret ?_
  try simp only [Exit.then]
  refine ret1 (v := .int .i64 0) rfl (by kernel_rfl) ?_
  exact ⟨rfl, (Below.refl _ _)⟩

set_option maxRecDepth 100000 in
set_option maxHeartbeats 1000000 in
theorem ShortestPlan_impl (m : Int) (A : Option Addr) (n c : Nat) (ps : List Pp) (A2 : Option Addr) (n2 c2 : Nat) (vs : List Vv) (s id : Int) (w : World) (ha : Rd w 4 A n (pipesV ps)) (hb : Rd w 4 A2 n2 (valvesV vs)) (hn : n ≤ 1048576) (hn2 : n2 ≤ 1048576) (hfm : Fm A n c) (hfm2 : Fm A2 n2 c2) :
    Calls Try.prog 24 #[.agg #[.int .i64 m, .slice A n c], .slice A2 n2 c2, .int .i64 s, .int .i64 id] w fun e w' => ∃ A' d, e = .returned (.tuple #[.slice A' (ShortestPlan_v0 m ps vs s id).length d, .bool (ShortestPlan_v1 m ps vs s id)]) ∧ w'.ownsRow w.heap.size 3 1 (.slice A' (ShortestPlan_v0 m ps vs s id).length d) (ShortestPlan_v0 m ps vs s id).length (intsV (ShortestPlan_v0 m ps vs s id)) ∧ Below w.heap.size w w' := by
  have hl := rd_pipes_len ha
  have hl2 := rd_valves_len hb
  have hfl := findL_lt ps id
  go_enter Try.func24, Try.ntmps24
  refine wp_seq_k (fun K1 h1 => ?_)
  refine W.region_plain (row := none) [(0, true), (1, false), (2, false)] (by kernel_rfl) ?_
  have s1 := SG.self w none
  refine W.sn (fun b => .pointer (some ⟨b, 0, none⟩)) #[.int .i64 m, .slice A n c] 32 s1 rfl (by kernel_rfl) rfl (fun _ => by kernel_rfl) (fun b2 w3 hb4 k5 x6 s7 => ?_)
  have lo8 : w.heap.size ≤ b2 := by have := ((SG.belowR (Below.refl _ _) s1 (fun kq e => by cases e))).size; omega
  refine W.as (v := .slice none 0 0) (h := ?_)
  refine W.as (v := .bool false) (h := ?_)
  refine W.endF 31 [(0, .agg #[.int .i64 m, .slice A n c]), (1, .slice A2 n2 c2), (2, .int .i64 s), (3, .int .i64 id), (4, .pointer (some ⟨b2, 0, none⟩)), (8, .slice none 0 0), (9, .bool false)] (fun U9 => ?_)
  have c10 := (SG.belowR (Below.refl _ _) s7 (fun kq e => by cases e))
  refine h1 _ _ ?_
  refine wp_seq_k (fun K2 h2 => ?_)
  refine wp_seq_k (fun K3 h3 => ?_)
  refine W.region_plain (row := none) [(0, false), (1, false), (2, false), (3, false), (4, true), (5, false)] (by kernel_rfl) ?_
  have s11 := SG.self w3 none
  refine W.q (v := .agg #[.int .i64 m, .slice A n c]) (hr := (r_load2 rfl (by kernel_rfl) (by kernel_rfl) (by kernel_rfl) (sgS (blk_cell (j := 0) x6 (by kernel_rfl)) (by simp)) (sgS (blk_cell (j := 1) x6 (by kernel_rfl)) (by simp)))) (h := ?_)
  refine W.mv (v := .slice A2 n2 c2) (h := ?_)
  refine W.mv (v := .int .i64 s) (h := ?_)
  refine W.mv (v := .int .i64 id) (h := ?_)
  refine W.sc (vs := [.agg #[.int .i64 m, .slice A n c], .slice A2 n2 c2, .int .i64 s, .int .i64 id]) rfl rfl (by kernel_rfl) (by kernel_rfl) (by kernel_rfl) rfl (canBurst_any m A n c ps A2 n2 c2 vs s id _ (Rd.kept ha (SG.belowR c10 s11 (fun kq e => by cases e))) (Rd.kept hb (SG.belowR c10 s11 (fun kq e => by cases e))) (by omega) (by omega) hfm2) ?_
  rintro e w13 ⟨rfl, b12⟩
  have s14 := SG.of_below s11 b12
  refine ⟨_, rfl, s14, ?_⟩
  rcases Bool.eq_false_or_eq_true (canB m ps vs s id) with q15 | q15
  · rw [q15]
    obtain ⟨hv9, hs, hfa⟩ := canB_of q15
    have hg := hv9.net
    have hgl := hg.lo
    have hgh := hg.hi
    have hp := hg.pipesIn
    have hlen10 := hg.len
    have hu := hv9.uniq
    have hvl := hv9.len
    refine W.q (v := .bool false) (hr := (r_not (b := true) rfl (by kernel_rfl) rfl)) (h := ?_)
    refine W.endF 31 [(0, .agg #[.int .i64 m, .slice A n c]), (1, .slice A2 n2 c2), (2, .int .i64 s), (3, .int .i64 id), (4, .pointer (some ⟨b2, 0, none⟩)), (8, .slice none 0 0), (9, .bool false), (18, .bool false)] (fun U16 => ?_)
    have x6 := SG.blk s14 x6 (by simp)
    have c17 := (SG.belowR c10 s14 (fun kq e => by cases e))
    refine h3 _ _ ?_
    refine wp_cond_false (by kernel_rfl) ?_
    refine wp_skip ?_
    refine h2 _ _ ?_
    refine wp_seq_k (fun K4 h4 => ?_)
    refine W.region_plain (row := none) [(0, false), (1, false), (2, false), (3, false), (4, true), (5, false), (6, false), (7, false), (8, false), (9, false), (10, false), (11, false)] (by kernel_rfl) ?_
    have s18 := SG.self w13 none
    refine W.q (v := .agg #[.int .i64 m, .slice A n c]) (hr := (r_load2 rfl (by kernel_rfl) (by kernel_rfl) (by kernel_rfl) (sgS (blk_cell (j := 0) x6 (by kernel_rfl)) (by simp)) (sgS (blk_cell (j := 1) x6 (by kernel_rfl)) (by simp)))) (h := ?_)
    refine W.mv (v := .slice A2 n2 c2) (h := ?_)
    refine W.mv (v := .int .i64 s) (h := ?_)
    refine W.mv (v := .int .i64 id) (h := ?_)
    have z23 := ((SG.belowR c17 s18 (fun kq e => by cases e))).size
    refine W.sc (vs := [.agg #[.int .i64 m, .slice A n c], .slice A2 n2 c2, .int .i64 s, .int .i64 id, .func (.func 65) #[] #[]]) rfl rfl (by kernel_rfl) (by kernel_rfl) (by kernel_rfl) rfl (bestPlan_any m A n c ps A2 n2 c2 vs s id 65 #[] (harmL ps vs s ([])) _ (Rd.kept ha (SG.belowR c17 s18 (fun kq e => by cases e))) (Rd.kept hb (SG.belowR c17 s18 (fun kq e => by cases e))) (by omega) (by omega) hfm2 hv9 hs hfa (by kernel_rfl) (fun W A9 n9 c9 pl9 hW hr9 hn9 => shortF_any A9 n9 c9 W)) ?_
    rintro e w26 ⟨A19, c20, rfl, ho21, b25⟩
    have s27 := SG.of_below s18 b25
    refine ⟨_, rfl, s27, ?_⟩
    have nb28 : Nb b2 (.slice A19 ((bpOf (bestR ps vs s id ([]))).length) c20) := nb_lo ho21 (Nat.lt_of_lt_of_le (blk_lt x6) (World.grownBy.size s18))
    have ho22 := own_base (base' := w.heap.size) ho21 z23
    refine W.mv (v := .tuple #[.slice A19 ((bpOf (bestR ps vs s id ([]))).length) c20, .int .i64 (ltOf (bestR ps vs s id ([]))), .bool ((bestR ps vs s id ([])).isSome)]) (h := ?_)
    refine W.q (v := .slice A19 ((bpOf (bestR ps vs s id ([]))).length) c20) (hr := (r_extract (vs := #[.slice A19 ((bpOf (bestR ps vs s id ([]))).length) c20, .int .i64 (ltOf (bestR ps vs s id ([]))), .bool ((bestR ps vs s id ([])).isSome)]) rfl (by kernel_rfl) (by kernel_rfl))) (h := ?_)
    refine W.q (v := .int .i64 (ltOf (bestR ps vs s id ([])))) (hr := (r_extract (vs := #[.slice A19 ((bpOf (bestR ps vs s id ([]))).length) c20, .int .i64 (ltOf (bestR ps vs s id ([]))), .bool ((bestR ps vs s id ([])).isSome)]) rfl (by kernel_rfl) (by kernel_rfl))) (h := ?_)
    refine W.q (v := .bool ((bestR ps vs s id ([])).isSome)) (hr := (r_extract (vs := #[.slice A19 ((bpOf (bestR ps vs s id ([]))).length) c20, .int .i64 (ltOf (bestR ps vs s id ([]))), .bool ((bestR ps vs s id ([])).isSome)]) rfl (by kernel_rfl) (by kernel_rfl))) (h := ?_)
    refine W.as (v := .slice A19 ((bpOf (bestR ps vs s id ([]))).length) c20) (h := ?_)
    refine W.as (v := .int .i64 (ltOf (bestR ps vs s id ([])))) (h := ?_)
    refine W.as (v := .bool ((bestR ps vs s id ([])).isSome)) (h := ?_)
    refine W.endF 31 [(0, .agg #[.int .i64 m, .slice A n c]), (1, .slice A2 n2 c2), (2, .int .i64 s), (3, .int .i64 id), (4, .pointer (some ⟨b2, 0, none⟩)), (8, .slice none 0 0), (9, .bool false), (10, .slice A19 ((bpOf (bestR ps vs s id ([]))).length) c20), (12, .bool ((bestR ps vs s id ([])).isSome)), (18, .bool false)] (fun U29 => ?_)
    have x6 := SG.blk s27 x6 (by simp)
    have c30 := (SG.belowR c17 s27 (fun kq e => by cases e))
    refine h4 _ _ ?_
    refine wp_seq_k (fun K5 h5 => ?_)
    refine wp_seq_k (fun K6 h6 => ?_)
    refine W.region_quiet [(0, false), (1, false)] (by kernel_rfl) ?_
    refine W.mv (v := .bool ((bestR ps vs s id ([])).isSome)) (h := ?_)
    refine W.q (v := .bool (!((bestR ps vs s id ([])).isSome))) (hr := (r_not (b := ((bestR ps vs s id ([])).isSome)) rfl (by kernel_rfl) rfl)) (h := ?_)
    refine W.endF 31 [(0, .agg #[.int .i64 m, .slice A n c]), (1, .slice A2 n2 c2), (2, .int .i64 s), (3, .int .i64 id), (4, .pointer (some ⟨b2, 0, none⟩)), (8, .slice none 0 0), (9, .bool false), (10, .slice A19 ((bpOf (bestR ps vs s id ([]))).length) c20), (12, .bool ((bestR ps vs s id ([])).isSome)), (18, .bool false), (29, .bool (!((bestR ps vs s id ([])).isSome)))] (fun U31 => ?_)
    refine h6 _ _ ?_
    rcases Bool.eq_false_or_eq_true (!((bestR ps vs s id ([])).isSome)) with q32 | q32
    · rw [q32]
      refine wp_cond_true (by kernel_rfl) ?_
      refine wp_seq_k (fun K7 h7 => ?_)
      refine W.region_quiet [(0, false), (1, false)] (by kernel_rfl) ?_
      refine W.as (v := .slice none 0 0) (h := ?_)
      refine W.as (v := .bool false) (h := ?_)
      refine W.endF 31 [(0, .agg #[.int .i64 m, .slice A n c]), (1, .slice A2 n2 c2), (2, .int .i64 s), (3, .int .i64 id), (4, .pointer (some ⟨b2, 0, none⟩)), (8, .slice none 0 0), (9, .bool false), (10, .slice A19 ((bpOf (bestR ps vs s id ([]))).length) c20), (12, .bool ((bestR ps vs s id ([])).isSome)), (18, .bool false), (29, .bool true)] (fun U33 => ?_)
      refine h7 _ _ ?_
      refine wp_ret ?_
      try simp only [Exit.then]
      refine ret2 (v := .slice none 0 0) (x := .bool false) rfl (by kernel_rfl) (by kernel_rfl) ?_
      have e7 : (bestR ps vs s id ([])).isSome = false := (by have h9 := q32; rw [Bool.not_eq_true'] at h9; exact h9)
      have e8 : ShortestPlan_v1 m ps vs s id = false := by unfold ShortestPlan_v1; rw [q15, e7]; rfl
      exact fin_ints (zs := []) (World.ownsRow_nil _ _ _ _) (by unfold ShortestPlan_v0; rw [if_neg (by rw [e8]; simp)]) e8.symm c30
    · rw [q32]
      refine wp_cond_false (by kernel_rfl) ?_
      refine wp_skip ?_
      refine h5 _ _ ?_
      refine wp_seq_k (fun K8 h8 => ?_)
      refine W.region_quiet [(0, false), (1, false), (2, false)] (by kernel_rfl) ?_
      refine W.mv (v := .slice A19 ((bpOf (bestR ps vs s id ([]))).length) c20) (h := ?_)
      refine W.as (v := .slice A19 ((bpOf (bestR ps vs s id ([]))).length) c20) (h := ?_)
      refine W.as (v := .bool true) (h := ?_)
      refine W.endF 31 [(0, .agg #[.int .i64 m, .slice A n c]), (1, .slice A2 n2 c2), (2, .int .i64 s), (3, .int .i64 id), (4, .pointer (some ⟨b2, 0, none⟩)), (8, .slice A19 ((bpOf (bestR ps vs s id ([]))).length) c20), (9, .bool true), (10, .slice A19 ((bpOf (bestR ps vs s id ([]))).length) c20), (12, .bool ((bestR ps vs s id ([])).isSome)), (18, .bool false), (29, .bool false)] (fun U34 => ?_)
      refine h8 _ _ ?_
      refine wp_ret ?_
      try simp only [Exit.then]
      refine ret2 (v := .slice A19 ((bpOf (bestR ps vs s id ([]))).length) c20) (x := .bool true) rfl (by kernel_rfl) (by kernel_rfl) ?_
      have e7 : (bestR ps vs s id ([])).isSome = true := (by have h9 := q32; rw [Bool.not_eq_false'] at h9; exact h9)
      have e8 : ShortestPlan_v1 m ps vs s id = true := by unfold ShortestPlan_v1; rw [q15, e7]; rfl
      exact fin_ints  ho22 (by unfold ShortestPlan_v0; rw [if_pos e8] <;> first | done | rfl) e8.symm c30
  · rw [q15]
    refine W.q (v := .bool true) (hr := (r_not (b := false) rfl (by kernel_rfl) rfl)) (h := ?_)
    refine W.endF 31 [(0, .agg #[.int .i64 m, .slice A n c]), (1, .slice A2 n2 c2), (2, .int .i64 s), (3, .int .i64 id), (4, .pointer (some ⟨b2, 0, none⟩)), (8, .slice none 0 0), (9, .bool false), (18, .bool true)] (fun U35 => ?_)
    have x6 := SG.blk s14 x6 (by simp)
    have c36 := (SG.belowR c10 s14 (fun kq e => by cases e))
    refine h3 _ _ ?_
    refine wp_cond_true (by kernel_rfl) ?_
    refine wp_seq_k (fun K9 h9 => ?_)
    refine W.region_quiet [(0, false), (1, false)] (by kernel_rfl) ?_
    refine W.as (v := .slice none 0 0) (h := ?_)
    refine W.as (v := .bool false) (h := ?_)
    refine W.endF 31 [(0, .agg #[.int .i64 m, .slice A n c]), (1, .slice A2 n2 c2), (2, .int .i64 s), (3, .int .i64 id), (4, .pointer (some ⟨b2, 0, none⟩)), (8, .slice none 0 0), (9, .bool false), (18, .bool true)] (fun U37 => ?_)
    refine h9 _ _ ?_
    refine wp_ret ?_
    try simp only [Exit.then]
    refine ret2 (v := .slice none 0 0) (x := .bool false) rfl (by kernel_rfl) (by kernel_rfl) ?_
    have e8 : ShortestPlan_v1 m ps vs s id = false := by unfold ShortestPlan_v1; rw [q15]; rfl
    exact fin_ints (zs := []) (World.ownsRow_nil _ _ _ _) (by unfold ShortestPlan_v0; rw [if_neg (by rw [e8]; simp)]) e8.symm c36

set_option maxRecDepth 100000 in
set_option maxHeartbeats 1000000 in
theorem ShortestPlan_spec (m : Int) (A : Option Addr) (n c : Nat) (ps : List Pp) (A2 : Option Addr) (n2 c2 : Nat) (vs : List Vv) (s id : Int) (w : World) (ha : Rd w 4 A n (pipesV ps)) (hb : Rd w 4 A2 n2 (valvesV vs)) (hn : n ≤ 1048576) (hn2 : n2 ≤ 1048576) (hfm : Fm A n c) (hfm2 : Fm A2 n2 c2) :
    Calls Try.prog 23 #[.agg #[.int .i64 m, .slice A n c], .slice A2 n2 c2, .int .i64 s, .int .i64 id] w fun e w' => ∃ A' d, e = .returned (.tuple #[.slice A' (ShortestPlan_v0 m ps vs s id).length d, .bool (ShortestPlan_v1 m ps vs s id)]) ∧ Rd w' 1 A' (ShortestPlan_v0 m ps vs s id).length (intsV (ShortestPlan_v0 m ps vs s id)) ∧ Below w.heap.size w w' := by
  have hl := rd_pipes_len ha
  have hl2 := rd_valves_len hb
  have hfl := findL_lt ps id
  go_enter Try.func23, Try.ntmps23
  refine wp_seq_k (fun K1 h1 => ?_)
  refine W.region_plain (row := none) [(0, true), (1, false), (2, false)] (by kernel_rfl) ?_
  have s1 := SG.self w none
  refine W.sn (fun b => .pointer (some ⟨b, 0, none⟩)) #[.int .i64 m, .slice A n c] 32 s1 rfl (by kernel_rfl) rfl (fun _ => by kernel_rfl) (fun b2 w3 hb4 k5 x6 s7 => ?_)
  have lo8 : w.heap.size ≤ b2 := by have := ((SG.belowR (Below.refl _ _) s1 (fun kq e => by cases e))).size; omega
  refine W.as (v := .slice none 0 0) (h := ?_)
  refine W.as (v := .bool false) (h := ?_)
  refine W.endF 31 [(0, .agg #[.int .i64 m, .slice A n c]), (1, .slice A2 n2 c2), (2, .int .i64 s), (3, .int .i64 id), (4, .pointer (some ⟨b2, 0, none⟩)), (8, .slice none 0 0), (9, .bool false)] (fun U9 => ?_)
  have c10 := (SG.belowR (Below.refl _ _) s7 (fun kq e => by cases e))
  refine h1 _ _ ?_
  refine wp_seq_k (fun K2 h2 => ?_)
  refine wp_seq_k (fun K3 h3 => ?_)
  refine W.region_plain (row := none) [(0, false), (1, false), (2, false), (3, false), (4, true), (5, false)] (by kernel_rfl) ?_
  have s11 := SG.self w3 none
  refine W.q (v := .agg #[.int .i64 m, .slice A n c]) (hr := (r_load2 rfl (by kernel_rfl) (by kernel_rfl) (by kernel_rfl) (sgS (blk_cell (j := 0) x6 (by kernel_rfl)) (by simp)) (sgS (blk_cell (j := 1) x6 (by kernel_rfl)) (by simp)))) (h := ?_)
  refine W.mv (v := .slice A2 n2 c2) (h := ?_)
  refine W.mv (v := .int .i64 s) (h := ?_)
  refine W.mv (v := .int .i64 id) (h := ?_)
  refine W.sc (vs := [.agg #[.int .i64 m, .slice A n c], .slice A2 n2 c2, .int .i64 s, .int .i64 id]) rfl rfl (by kernel_rfl) (by kernel_rfl) (by kernel_rfl) rfl (l5Asked_any m A n c ps A2 n2 c2 vs s id _ (Rd.kept ha (SG.belowR c10 s11 (fun kq e => by cases e))) (Rd.kept hb (SG.belowR c10 s11 (fun kq e => by cases e))) (by omega) (by omega) hfm2) ?_
  rintro e w13 ⟨rfl, b12⟩
  have s14 := SG.of_below s11 b12
  refine ⟨_, rfl, s14, ?_⟩
  rcases Bool.eq_false_or_eq_true (canB m ps vs s id) with q15 | q15
  · rw [q15]
    obtain ⟨hv9, hs, hfa⟩ := canB_of q15
    have hg := hv9.net
    have hgl := hg.lo
    have hgh := hg.hi
    have hp := hg.pipesIn
    have hlen10 := hg.len
    have hu := hv9.uniq
    have hvl := hv9.len
    refine W.q (v := .bool false) (hr := (r_not (b := true) rfl (by kernel_rfl) rfl)) (h := ?_)
    refine W.endF 31 [(0, .agg #[.int .i64 m, .slice A n c]), (1, .slice A2 n2 c2), (2, .int .i64 s), (3, .int .i64 id), (4, .pointer (some ⟨b2, 0, none⟩)), (8, .slice none 0 0), (9, .bool false), (17, .bool false)] (fun U16 => ?_)
    have x6 := SG.blk s14 x6 (by simp)
    have c17 := (SG.belowR c10 s14 (fun kq e => by cases e))
    refine h3 _ _ ?_
    refine wp_cond_false (by kernel_rfl) ?_
    refine wp_skip ?_
    refine h2 _ _ ?_
    refine wp_seq_k (fun K4 h4 => ?_)
    refine W.region_plain (row := none) [(0, false), (1, false), (2, false), (3, false), (4, true), (5, true), (6, false), (7, false), (8, false), (9, false), (10, false)] (by kernel_rfl) ?_
    have s18 := SG.self w13 none
    refine W.q (v := .agg #[.int .i64 m, .slice A n c]) (hr := (r_load2 rfl (by kernel_rfl) (by kernel_rfl) (by kernel_rfl) (sgS (blk_cell (j := 0) x6 (by kernel_rfl)) (by simp)) (sgS (blk_cell (j := 1) x6 (by kernel_rfl)) (by simp)))) (h := ?_)
    refine W.mv (v := .slice A2 n2 c2) (h := ?_)
    refine W.mv (v := .int .i64 s) (h := ?_)
    refine W.mv (v := .int .i64 id) (h := ?_)
    refine W.sn (fun b => .slice (some ⟨b, 0, none⟩) 0 0) #[] 3 s18 rfl (by kernel_rfl) rfl (fun _ => by kernel_rfl) (fun b19 w20 hb21 k22 x23 s24 => ?_)
    have lo25 : w.heap.size ≤ b19 := by have := ((SG.belowR c17 s18 (fun kq e => by cases e))).size; omega
    have ne26 : b2 ≠ b19 := by have := blk_lt x6; have := World.grownBy.size s18; omega
    have ho27 := own_empty (base := w.heap.size) (size := 1) x23 lo25
    replace ho27 : World.ownsRow _ _ _ _ _ _ (intsV []) := ho27
    have nb28 : Nb b2 (.slice (some ⟨b19, 0, none⟩) 0 0) := nb_new (by have := ne26; omega)
    have lr36 := World.ownsRow.lt ho27
    have z34 := ((SG.belowR c17 s24 (fun kq e => by cases e))).size
    refine W.sc (vs := [.agg #[.int .i64 m, .slice A n c], .slice A2 n2 c2, .int .i64 s, .int .i64 id, .slice (some ⟨b19, 0, none⟩) 0 0]) rfl rfl (by kernel_rfl) (by kernel_rfl) (by kernel_rfl) rfl (l5Best_any m A n c ps A2 n2 c2 vs s id (some ⟨b19, 0, none⟩) 0 0 ([]) _ (Rd.kept ha (SG.belowR c17 s24 (fun kq e => by cases e))) (Rd.kept hb (SG.belowR c17 s24 (fun kq e => by cases e))) (by omega) (by omega) hfm2 hv9 hs hfa (own_rd ho27) (by omega) (fun c hc => by cases hc) (.inl rfl)) ?_
    rintro e w38 ⟨A29, n30, c31, rfl, ho32, b37⟩
    have s39 := SG.of_below s24 b37
    refine ⟨_, rfl, s39, ?_⟩
    have ho40 := own_kept ho27 b37
    have nb41 : Nb b2 (.slice A29 n30 c31) := nb_lo ho32 (Nat.lt_of_lt_of_le (blk_lt x6) (World.grownBy.size s24))
    have nr42 : NbR (.slice A29 n30 c31) (.slice (some ⟨b19, 0, none⟩) 0 0) := fun j e1 e2 => by have h8 := (World.ownsRow.lt ho32 j e1).1; have h9 := (lr36 j e2).2; omega
    have ho33 := own_base (base' := w.heap.size) ho32 z34
    refine W.mv (v := .tuple #[.slice A29 n30 c31, .int .i64 (leastOf (bestR ps vs s id ([])))]) (h := ?_)
    refine W.q (v := .slice A29 n30 c31) (hr := (r_extract (vs := #[.slice A29 n30 c31, .int .i64 (leastOf (bestR ps vs s id ([])))]) rfl (by kernel_rfl) (by kernel_rfl))) (h := ?_)
    refine W.q (v := .int .i64 (leastOf (bestR ps vs s id ([])))) (hr := (r_extract (vs := #[.slice A29 n30 c31, .int .i64 (leastOf (bestR ps vs s id ([])))]) rfl (by kernel_rfl) (by kernel_rfl))) (h := ?_)
    refine W.as (v := .slice A29 n30 c31) (h := ?_)
    refine W.as (v := .int .i64 (leastOf (bestR ps vs s id ([])))) (h := ?_)
    refine W.endF 31 [(0, .agg #[.int .i64 m, .slice A n c]), (1, .slice A2 n2 c2), (2, .int .i64 s), (3, .int .i64 id), (4, .pointer (some ⟨b2, 0, none⟩)), (8, .slice none 0 0), (9, .bool false), (10, .slice A29 n30 c31), (11, .int .i64 (leastOf (bestR ps vs s id ([])))), (17, .bool false)] (fun U43 => ?_)
    have x6 := SG.blk s39 x6 (by simp)
    have c44 := (SG.belowR c17 s39 (fun kq e => by cases e))
    refine h4 _ _ ?_
    refine wp_seq_k (fun K5 h5 => ?_)
    refine W.region_quiet [(0, false), (1, false), (2, false), (3, false), (4, false)] (by kernel_rfl) ?_
    refine W.mv (v := .slice A29 n30 c31) (h := ?_)
    refine W.mv (v := .int .i64 (leastOf (bestR ps vs s id ([])))) (h := ?_)
    by_cases q45 : ((leastOf (bestR ps vs s id ([]))) : Int) ≥ (0 : Int)
    · refine W.q (v := .bool true) (hr := (r_geq (m := (leastOf (bestR ps vs s id ([])))) (n := 0) rfl (by kernel_rfl) (by kernel_rfl) (decide_eq_true q45))) (h := ?_)
      refine W.as (v := .slice A29 n30 c31) (h := ?_)
      refine W.as (v := .bool true) (h := ?_)
      refine W.endF 31 [(0, .agg #[.int .i64 m, .slice A n c]), (1, .slice A2 n2 c2), (2, .int .i64 s), (3, .int .i64 id), (4, .pointer (some ⟨b2, 0, none⟩)), (8, .slice A29 n30 c31), (9, .bool true), (10, .slice A29 n30 c31), (11, .int .i64 (leastOf (bestR ps vs s id ([])))), (17, .bool false)] (fun U46 => ?_)
      refine h5 _ _ ?_
      refine wp_ret ?_
      try simp only [Exit.then]
      refine ret2 (v := .slice A29 n30 c31) (x := .bool true) rfl (by kernel_rfl) (by kernel_rfl) ?_
      have e7 : (bestR ps vs s id ([])).isSome = true := least_yes (by omega)
      have e8 : ShortestPlan_v1 m ps vs s id = true := by unfold ShortestPlan_v1; rw [q15, e7]; rfl
      exact fin_rd  (own_rd ho33) (by unfold ShortestPlan_v0; rw [if_pos e8] <;> first | done | rfl) e8.symm c44
    · refine W.q (v := .bool false) (hr := (r_geq (m := (leastOf (bestR ps vs s id ([])))) (n := 0) rfl (by kernel_rfl) (by kernel_rfl) (decide_eq_false q45))) (h := ?_)
      refine W.as (v := .slice A29 n30 c31) (h := ?_)
      refine W.as (v := .bool false) (h := ?_)
      refine W.endF 31 [(0, .agg #[.int .i64 m, .slice A n c]), (1, .slice A2 n2 c2), (2, .int .i64 s), (3, .int .i64 id), (4, .pointer (some ⟨b2, 0, none⟩)), (8, .slice A29 n30 c31), (9, .bool false), (10, .slice A29 n30 c31), (11, .int .i64 (leastOf (bestR ps vs s id ([])))), (17, .bool false)] (fun U47 => ?_)
      refine h5 _ _ ?_
      refine wp_ret ?_
      try simp only [Exit.then]
      refine ret2 (v := .slice A29 n30 c31) (x := .bool false) rfl (by kernel_rfl) (by kernel_rfl) ?_
      have e7 : (bestR ps vs s id ([])).isSome = false := least_no (fun c hc => by cases hc) (by omega)
      have e8 : ShortestPlan_v1 m ps vs s id = false := by unfold ShortestPlan_v1; rw [q15, e7]; rfl
      exact fin_rd  (own_rd ho33) (by unfold ShortestPlan_v0; rw [if_neg (by rw [e8]; simp)]; exact bp_none e7) e8.symm c44
  · rw [q15]
    refine W.q (v := .bool true) (hr := (r_not (b := false) rfl (by kernel_rfl) rfl)) (h := ?_)
    refine W.endF 31 [(0, .agg #[.int .i64 m, .slice A n c]), (1, .slice A2 n2 c2), (2, .int .i64 s), (3, .int .i64 id), (4, .pointer (some ⟨b2, 0, none⟩)), (8, .slice none 0 0), (9, .bool false), (17, .bool true)] (fun U48 => ?_)
    have x6 := SG.blk s14 x6 (by simp)
    have c49 := (SG.belowR c10 s14 (fun kq e => by cases e))
    refine h3 _ _ ?_
    refine wp_cond_true (by kernel_rfl) ?_
    refine wp_seq_k (fun K6 h6 => ?_)
    refine W.region_plain (row := none) [(0, true), (1, false), (2, false)] (by kernel_rfl) ?_
    have s50 := SG.self w13 none
    refine W.sn (fun b => .slice (some ⟨b, 0, none⟩) 0 0) #[] 3 s50 rfl (by kernel_rfl) rfl (fun _ => by kernel_rfl) (fun b51 w52 hb53 k54 x55 s56 => ?_)
    have lo57 : w.heap.size ≤ b51 := by have := ((SG.belowR c49 s50 (fun kq e => by cases e))).size; omega
    have ne58 : b2 ≠ b51 := by have := blk_lt x6; have := World.grownBy.size s50; omega
    refine W.as (v := .slice (some ⟨b51, 0, none⟩) 0 0) (h := ?_)
    refine W.as (v := .bool false) (h := ?_)
    refine W.endF 31 [(0, .agg #[.int .i64 m, .slice A n c]), (1, .slice A2 n2 c2), (2, .int .i64 s), (3, .int .i64 id), (4, .pointer (some ⟨b2, 0, none⟩)), (8, .slice (some ⟨b51, 0, none⟩) 0 0), (9, .bool false), (17, .bool true)] (fun U59 => ?_)
    have x6 := SG.blk s56 x6 (by simp)
    have c60 := (SG.belowR c49 s56 (fun kq e => by cases e))
    refine h6 _ _ ?_
    refine wp_ret ?_
    try simp only [Exit.then]
    refine ret2 (v := .slice (some ⟨b51, 0, none⟩) 0 0) (x := .bool false) rfl (by kernel_rfl) (by kernel_rfl) ?_
    have ho61 := own_empty (base := w.heap.size) (size := 1) x55 lo57
    replace ho61 : World.ownsRow _ _ _ _ _ _ (intsV []) := ho61
    have nb62 : Nb b2 (.slice (some ⟨b51, 0, none⟩) 0 0) := nb_new (by have := ne58; omega)
    have e8 : ShortestPlan_v1 m ps vs s id = false := by unfold ShortestPlan_v1; rw [q15]; rfl
    exact fin_rd (zs := []) (own_rd ho61) (by unfold ShortestPlan_v0; rw [if_neg (by rw [e8]; simp)]) e8.symm c60

end Go.Proofs.Ytnfmdkbelbppdaa
