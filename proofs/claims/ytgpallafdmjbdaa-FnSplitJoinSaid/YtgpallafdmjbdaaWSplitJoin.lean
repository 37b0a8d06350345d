/- The walk of the law FnSplitJoin. -/
import Derived.Test.YtgpallafdmjbdaaDraw1
import Derived.Test.YtgpallafdmjbdaaJoin
import Derived.Test.YtgpallafdmjbdaaSpJP
import Derived.Test.YtgpallafdmjbdaaFirst
import Derived.Test.YtgpallafdmjbdaaRows
namespace Go.Proofs.Ytgpallafdmjbdaa
open Go.RowKit
set_option linter.unusedVariables false
set_option linter.unusedSimpArgs false

theorem split_of {s sep : ByteArray} (h : SplitString_v1 s sep = true) : sep.size = 1 ∧ s.size ≤ 4000 ∧ SplitString_v0 s sep = splitL s (bAt sep 0) := by
  have h0 : SplitString_v0 s sep = splitL s (bAt sep 0) := if_pos h
  unfold SplitString_v1 at h
  simp only [Bool.and_eq_true, decide_eq_true_eq] at h
  exact ⟨h.2, h.1, h0⟩
theorem split_not {s sep : ByteArray} (h : SplitString_v1 s sep = false) (hs : s.size ≤ 10) : sep.size ≠ 1 ∧ SplitString_v0 s sep = [] := by
  refine ⟨fun e => ?_, if_neg (by rw [h]; simp)⟩
  unfold SplitString_v1 at h
  rw [decide_eq_true (show s.size ≤ 4000 by omega), decide_eq_true e] at h
  cases h
theorem split_parts {s sep x : ByteArray} (h : SplitString_v1 s sep = true) (hx : x ∈ SplitString_v0 s sep) : x.size ≤ 4000 := by
  obtain ⟨h1, h2, h3⟩ := split_of h
  rw [h3] at hx
  have hj := join_split (s := s) h1
  have hz := joinB_size (splitL s (bAt sep 0)) sep (splitL_pos _ _)
  rw [hj] at hz
  have := lenSum_mem hx
  omega
theorem split_back {s sep : ByteArray} (h : SplitString_v1 s sep = true) : JoinStrings_v1 (SplitString_v0 s sep) sep = true ∧ JoinStrings_v0 (SplitString_v0 s sep) sep = s := by
  obtain ⟨h1, h2, h3⟩ := split_of h
  rw [h3]
  exact split_join_ok h1 h2
theorem less_no {a b : ByteArray} (h : Op.bytesLess a.toList b.toList = true) : Op.bytesLess b.toList a.toList = false := less_asym _ _ h

set_option maxRecDepth 100000 in
set_option maxHeartbeats 1000000 in
theorem vBig_any (A : Option Addr) (n c : Nat) (zs : List Int) (w : World) (hcode : Rd w 1 A n (bytesV zs)) (hz : ∀ z ∈ zs, 0 ≤ z ∧ z < 256) (hn : n ≤ 9223372036854775807) :
    Calls Try.prog 22 #[.slice A n c] w fun e w' => e = .returned (.bool (decide (65536 < n))) ∧ Below w.heap.size w w' := by
  have hl := rd_bytes_len hcode
  go_enter Try.func22, Try.ntmps22
  refine wp_seq_k (fun K1 h1 => ?_)
  refine W.region_quiet [(0, false)] (by kernel_rfl) ?_
  refine W.as (v := .bool false) (h := ?_)
  refine W.endF 6 [(0, .slice A n c), (2, .bool false)] (fun U1 => ?_)
  refine h1 _ _ ?_
  refine wp_seq_k (fun K2 h2 => ?_)
  refine W.region_quiet [(0, false), (1, false), (2, false), (3, false)] (by kernel_rfl) ?_
  refine W.mv (v := .slice A n c) (h := ?_)
  refine W.q (v := .int .i64 ((n : Nat) : Int)) (hr := (r_len (A := A) (n := n) (c := c) rfl (by kernel_rfl) (by kernel_rfl))) (h := ?_)
  by_cases q2 : (((n : Nat) : Int) : Int) > (65536 : Int)
  · refine W.q (v := .bool true) (hr := (r_gtr (m := ((n : Nat) : Int)) (n := 65536) rfl (by kernel_rfl) (by kernel_rfl) (decide_eq_true q2))) (h := ?_)
    refine W.as (v := .bool true) (h := ?_)
    refine W.endF 6 [(0, .slice A n c), (2, .bool true)] (fun U3 => ?_)
    refine h2 _ _ ?_
    refine wp_ret ?_
    try simp only [Exit.then]
    refine ret1 (v := .bool true) rfl (by kernel_rfl) ?_
    exact ⟨by rw [decide_eq_true (by omega)], (Below.refl _ _)⟩
  · refine W.q (v := .bool false) (hr := (r_gtr (m := ((n : Nat) : Int)) (n := 65536) rfl (by kernel_rfl) (by kernel_rfl) (decide_eq_false q2))) (h := ?_)
    refine W.as (v := .bool false) (h := ?_)
    refine W.endF 6 [(0, .slice A n c), (2, .bool false)] (fun U4 => ?_)
    refine h2 _ _ ?_
    refine wp_ret ?_
    try simp only [Exit.then]
    refine ret1 (v := .bool false) rfl (by kernel_rfl) ?_
    exact ⟨by rw [decide_eq_false (by omega)], (Below.refl _ _)⟩

set_option maxRecDepth 100000 in
set_option maxHeartbeats 1000000 in
theorem wi_FnSplitJoin (A : Option Addr) (n c : Nat) (zs : List Int) (w : World) (hcode : Rd w 1 A n (bytesV zs)) (hz : ∀ z ∈ zs, 0 ≤ z ∧ z < 256) (hn : n ≤ 9223372036854775807) :
    Calls Try.prog 8 #[.slice A n c] w fun e w' => e = .returned (.bool true) ∧ Below w.heap.size w w' := by
  have hl := rd_bytes_len hcode
  go_enter Try.func8, Try.ntmps8
  refine wp_seq_k (fun K1 h1 => ?_)
  refine W.region_quiet [(0, false)] (by kernel_rfl) ?_
  refine W.as (v := .bool false) (h := ?_)
  refine W.endF 104 [(0, .slice A n c), (2, .bool false)] (fun U1 => ?_)
  refine h1 _ _ ?_
  refine wp_seq_k (fun K2 h2 => ?_)
  refine wp_seq_k (fun K3 h3 => ?_)
  refine W.region_plain (row := none) [(0, false), (1, true)] (by kernel_rfl) ?_
  have s2 := SG.self w none
  refine W.mv (v := .slice A n c) (h := ?_)
  refine W.sc (vs := [.slice A n c]) rfl rfl (by kernel_rfl) (by kernel_rfl) (by kernel_rfl) rfl (vBig_any A n c zs _ (Rd.kept hcode (SG.belowR (Below.refl _ _) s2 (fun kq e => by cases e))) hz hn) ?_
  rintro e w4 ⟨rfl, b3⟩
  have s5 := SG.of_below s2 b3
  refine ⟨_, rfl, s5, ?_⟩
  rcases Bool.eq_false_or_eq_true (decide (65536 < n)) with q6 | q6
  · rw [q6]
    refine W.endF 104 [(0, .slice A n c), (2, .bool false), (18, .bool true)] (fun U7 => ?_)
    have c8 := (SG.belowR (Below.refl _ _) s5 (fun kq e => by cases e))
    refine h3 _ _ ?_
    refine wp_cond_true (by kernel_rfl) ?_
    refine wp_seq_k (fun K4 h4 => ?_)
    refine W.region_quiet [(0, false)] (by kernel_rfl) ?_
    refine W.as (v := .bool true) (h := ?_)
    refine W.endF 104 [(0, .slice A n c), (2, .bool true), (18, .bool true)] (fun U9 => ?_)
    refine h4 _ _ ?_
    refine wp_ret ?_
    try simp only [Exit.then]
    refine ret1 (v := .bool true) rfl (by kernel_rfl) ?_
    exact ⟨rfl, c8⟩
  · rw [q6]
    refine W.endF 104 [(0, .slice A n c), (2, .bool false), (18, .bool false)] (fun U10 => ?_)
    have c11 := (SG.belowR (Below.refl _ _) s5 (fun kq e => by cases e))
    refine h3 _ _ ?_
    refine wp_cond_false (by kernel_rfl) ?_
    refine wp_skip ?_
    refine h2 _ _ ?_
    refine wp_seq_k (fun K5 h5 => ?_)
    refine W.region_plain (row := none) [(0, false), (1, true), (2, false), (3, false), (4, false), (5, false), (6, false)] (by kernel_rfl) ?_
    have s12 := SG.self w4 none
    refine W.mv (v := .slice A n c) (h := ?_)
    refine W.sc (vs := [.slice A n c]) rfl rfl (by kernel_rfl) (by kernel_rfl) (by kernel_rfl) rfl (DrawSplitString_any A n c zs _ (Rd.kept hcode (SG.belowR c11 s12 (fun kq e => by cases e))) hz (by have h9 := of_decide_eq_false q6; omega)) ?_
    rintro e w14 ⟨s, sep, rfl, hs10, hsep2, b13⟩
    have s15 := SG.of_below s12 b13
    refine ⟨_, rfl, s15, ?_⟩
    refine W.mv (v := .tuple #[.string s, .string sep]) (h := ?_)
    refine W.q (v := .string s) (hr := (r_extract (vs := #[.string s, .string sep]) rfl (by kernel_rfl) (by kernel_rfl))) (h := ?_)
    refine W.q (v := .string sep) (hr := (r_extract (vs := #[.string s, .string sep]) rfl (by kernel_rfl) (by kernel_rfl))) (h := ?_)
    refine W.as (v := .string s) (h := ?_)
    refine W.as (v := .string sep) (h := ?_)
    refine W.endF 104 [(0, .slice A n c), (2, .bool false), (3, .string s), (4, .string sep), (18, .bool false)] (fun U16 => ?_)
    have c17 := (SG.belowR c11 s15 (fun kq e => by cases e))
    refine h5 _ _ ?_
    refine wp_seq_k (fun K6 h6 => ?_)
    refine W.region_plain (row := none) [(0, false), (1, false), (2, true), (3, false), (4, false), (5, false), (6, false), (7, false)] (by kernel_rfl) ?_
    have s18 := SG.self w14 none
    refine W.mv (v := .string s) (h := ?_)
    refine W.mv (v := .string sep) (h := ?_)
    have z24 := ((SG.belowR c17 s18 (fun kq e => by cases e))).size
    refine W.sc (vs := [.string s, .string sep]) rfl rfl (by kernel_rfl) (by kernel_rfl) (by kernel_rfl) rfl (SplitString_impl s sep _ (by omega) (by omega)) ?_
    rintro e w28 ⟨A19, c21, rfl, ho22, b27⟩
    have s29 := SG.of_below s18 b27
    refine ⟨_, rfl, s29, ?_⟩
    have ho23 := own_base (base' := w.heap.size) ho22 z24
    have hl26 := rd_strs_len (own_rd ho23)
    rcases Bool.eq_false_or_eq_true (SplitString_v1 s sep) with q30 | q30
    · rw [q30]
      refine W.mv (v := .tuple #[.slice A19 ((SplitString_v0 s sep).length) c21, .bool true]) (h := ?_)
      refine W.q (v := .slice A19 ((SplitString_v0 s sep).length) c21) (hr := (r_extract (vs := #[.slice A19 ((SplitString_v0 s sep).length) c21, .bool true]) rfl (by kernel_rfl) (by kernel_rfl))) (h := ?_)
      refine W.q (v := .bool true) (hr := (r_extract (vs := #[.slice A19 ((SplitString_v0 s sep).length) c21, .bool true]) rfl (by kernel_rfl) (by kernel_rfl))) (h := ?_)
      refine W.as (v := .slice A19 ((SplitString_v0 s sep).length) c21) (h := ?_)
      refine W.as (v := .bool true) (h := ?_)
      refine W.endF 104 [(0, .slice A n c), (2, .bool false), (3, .string s), (4, .string sep), (5, .slice A19 ((SplitString_v0 s sep).length) c21), (6, .bool true), (18, .bool false)] (fun U31 => ?_)
      have c32 := (SG.belowR c17 s29 (fun kq e => by cases e))
      refine h6 _ _ ?_
      refine wp_seq_k (fun K7 h7 => ?_)
      refine W.region_plain (row := none) [(0, false), (1, true), (2, false), (3, false), (4, false), (5, false), (6, false)] (by kernel_rfl) ?_
      have s33 := SG.self w28 none
      refine W.mv (v := .slice A n c) (h := ?_)
      have z39 := ((SG.belowR c32 s33 (fun kq e => by cases e))).size
      refine W.sc (vs := [.slice A n c]) rfl rfl (by kernel_rfl) (by kernel_rfl) (by kernel_rfl) rfl (DrawJoinStrings_any A n c zs _ (Rd.kept hcode (SG.belowR c32 s33 (fun kq e => by cases e))) hz (by have h9 := of_decide_eq_false q6; omega)) ?_
      rintro e w43 ⟨A34, n35, c36, ks, mark, rfl, ho37, hks5, hksz, hmk, b42⟩
      have s44 := SG.of_below s33 b42
      refine ⟨_, rfl, s44, ?_⟩
      have ho45 := own_kept ho23 b42
      have ho38 := own_base (base' := w.heap.size) ho37 z39
      have hl41 := rd_strs_len (own_rd ho38)
      have nr46 : NbR (.slice A34 n35 c36) (.slice A19 ((SplitString_v0 s sep).length) c21) := fun j e1 e2 => by have h8 := (World.ownsRow.lt ho37 j e1).1; have h9 := (World.ownsRow.lt ho23 j e2).2; omega
      refine W.mv (v := .tuple #[.slice A34 n35 c36, .string mark]) (h := ?_)
      refine W.q (v := .slice A34 n35 c36) (hr := (r_extract (vs := #[.slice A34 n35 c36, .string mark]) rfl (by kernel_rfl) (by kernel_rfl))) (h := ?_)
      refine W.q (v := .string mark) (hr := (r_extract (vs := #[.slice A34 n35 c36, .string mark]) rfl (by kernel_rfl) (by kernel_rfl))) (h := ?_)
      refine W.as (v := .slice A34 n35 c36) (h := ?_)
      refine W.as (v := .string mark) (h := ?_)
      refine W.endF 104 [(0, .slice A n c), (2, .bool false), (3, .string s), (4, .string sep), (5, .slice A19 ((SplitString_v0 s sep).length) c21), (6, .bool true), (7, .slice A34 n35 c36), (8, .string mark), (18, .bool false)] (fun U47 => ?_)
      have c48 := (SG.belowR c32 s44 (fun kq e => by cases e))
      refine h7 _ _ ?_
      refine wp_seq_k (fun K8 h8 => ?_)
      refine W.region_plain (row := none) [(0, false), (1, false), (2, true), (3, false), (4, false), (5, false), (6, false), (7, false)] (by kernel_rfl) ?_
      have s49 := SG.self w43 none
      refine W.mv (v := .slice A34 n35 c36) (h := ?_)
      refine W.mv (v := .string mark) (h := ?_)
      refine W.sc (vs := [.slice A34 n35 c36, .string mark]) rfl rfl (by kernel_rfl) (by kernel_rfl) (by kernel_rfl) rfl (JoinStrings_impl A34 n35 c36 ks mark _ (own_rd ho38) (own_fm ho38) (by have h9 := own_len ho38; rw [strs_len] at h9; omega) (fun y hy => by have := hksz y hy; omega) (by omega)) ?_
      rintro e w51 ⟨rfl, b50⟩
      have s52 := SG.of_below s49 b50
      refine ⟨_, rfl, s52, ?_⟩
      have ho53 := own_kept ho45 b50
      have ho54 := own_kept ho38 b50
      refine W.mv (v := .tuple #[.string (JoinStrings_v0 ks mark), .bool (JoinStrings_v1 ks mark)]) (h := ?_)
      refine W.q (v := .string (JoinStrings_v0 ks mark)) (hr := (r_extract (vs := #[.string (JoinStrings_v0 ks mark), .bool (JoinStrings_v1 ks mark)]) rfl (by kernel_rfl) (by kernel_rfl))) (h := ?_)
      refine W.q (v := .bool (JoinStrings_v1 ks mark)) (hr := (r_extract (vs := #[.string (JoinStrings_v0 ks mark), .bool (JoinStrings_v1 ks mark)]) rfl (by kernel_rfl) (by kernel_rfl))) (h := ?_)
      refine W.as (v := .string (JoinStrings_v0 ks mark)) (h := ?_)
      refine W.as (v := .bool (JoinStrings_v1 ks mark)) (h := ?_)
      refine W.endF 104 [(0, .slice A n c), (2, .bool false), (3, .string s), (4, .string sep), (5, .slice A19 ((SplitString_v0 s sep).length) c21), (6, .bool true), (7, .slice A34 n35 c36), (8, .string mark), (9, .string (JoinStrings_v0 ks mark)), (10, .bool (JoinStrings_v1 ks mark)), (18, .bool false)] (fun U55 => ?_)
      have c56 := (SG.belowR c48 s52 (fun kq e => by cases e))
      refine h8 _ _ ?_
      refine wp_seq_k (fun K9 h9 => ?_)
      refine W.region_plain (row := none) [(0, false), (1, false), (2, true), (3, false), (4, false), (5, false), (6, false), (7, false)] (by kernel_rfl) ?_
      have s57 := SG.self w51 none
      refine W.mv (v := .slice A34 n35 c36) (h := ?_)
      refine W.mv (v := .string mark) (h := ?_)
      refine W.sc (vs := [.slice A34 n35 c36, .string mark]) rfl rfl (by kernel_rfl) (by kernel_rfl) (by kernel_rfl) rfl (JoinStrings_spec A34 n35 c36 ks mark _ (own_rd ho54) (by have h9 := own_len ho54; rw [strs_len] at h9; omega) (fun y hy => by have := hksz y hy; omega) (by omega)) ?_
      rintro e w59 ⟨rfl, b58⟩
      have s60 := SG.of_below s57 b58
      refine ⟨_, rfl, s60, ?_⟩
      have ho61 := own_kept ho53 b58
      have ho62 := own_kept ho54 b58
      refine W.mv (v := .tuple #[.string (JoinStrings_v0 ks mark), .bool (JoinStrings_v1 ks mark)]) (h := ?_)
      refine W.q (v := .string (JoinStrings_v0 ks mark)) (hr := (r_extract (vs := #[.string (JoinStrings_v0 ks mark), .bool (JoinStrings_v1 ks mark)]) rfl (by kernel_rfl) (by kernel_rfl))) (h := ?_)
      refine W.q (v := .bool (JoinStrings_v1 ks mark)) (hr := (r_extract (vs := #[.string (JoinStrings_v0 ks mark), .bool (JoinStrings_v1 ks mark)]) rfl (by kernel_rfl) (by kernel_rfl))) (h := ?_)
      refine W.as (v := .string (JoinStrings_v0 ks mark)) (h := ?_)
      refine W.as (v := .bool (JoinStrings_v1 ks mark)) (h := ?_)
      refine W.endF 104 [(0, .slice A n c), (2, .bool false), (3, .string s), (4, .string sep), (5, .slice A19 ((SplitString_v0 s sep).length) c21), (6, .bool true), (7, .slice A34 n35 c36), (8, .string mark), (9, .string (JoinStrings_v0 ks mark)), (10, .bool (JoinStrings_v1 ks mark)), (11, .string (JoinStrings_v0 ks mark)), (12, .bool (JoinStrings_v1 ks mark)), (18, .bool false)] (fun U63 => ?_)
      have c64 := (SG.belowR c56 s60 (fun kq e => by cases e))
      refine h9 _ _ ?_
      refine wp_seq_k (fun K10 h10 => ?_)
      refine W.region_plain (row := none) [(0, false), (1, true), (2, false), (3, false), (4, false), (5, false), (6, false)] (by kernel_rfl) ?_
      have s65 := SG.self w59 none
      refine W.mv (v := .slice A n c) (h := ?_)
      refine W.sc (vs := [.slice A n c]) rfl rfl (by kernel_rfl) (by kernel_rfl) (by kernel_rfl) rfl (DrawLessString_any A n c zs _ (Rd.kept hcode (SG.belowR c64 s65 (fun kq e => by cases e))) hz (by have h9 := of_decide_eq_false q6; omega)) ?_
      rintro e w67 ⟨x, y, rfl, b66⟩
      have s68 := SG.of_below s65 b66
      refine ⟨_, rfl, s68, ?_⟩
      have ho69 := own_kept ho61 b66
      have ho70 := own_kept ho62 b66
      refine W.mv (v := .tuple #[.string x, .string y]) (h := ?_)
      refine W.q (v := .string x) (hr := (r_extract (vs := #[.string x, .string y]) rfl (by kernel_rfl) (by kernel_rfl))) (h := ?_)
      refine W.q (v := .string y) (hr := (r_extract (vs := #[.string x, .string y]) rfl (by kernel_rfl) (by kernel_rfl))) (h := ?_)
      refine W.as (v := .string x) (h := ?_)
      refine W.as (v := .string y) (h := ?_)
      refine W.endF 104 [(0, .slice A n c), (2, .bool false), (3, .string s), (4, .string sep), (5, .slice A19 ((SplitString_v0 s sep).length) c21), (6, .bool true), (7, .slice A34 n35 c36), (8, .string mark), (9, .string (JoinStrings_v0 ks mark)), (10, .bool (JoinStrings_v1 ks mark)), (11, .string (JoinStrings_v0 ks mark)), (12, .bool (JoinStrings_v1 ks mark)), (13, .string x), (14, .string y), (18, .bool false)] (fun U71 => ?_)
      have c72 := (SG.belowR c64 s68 (fun kq e => by cases e))
      refine h10 _ _ ?_
      refine wp_seq_k (fun K11 h11 => ?_)
      refine wp_seq_k (fun K12 h12 => ?_)
      refine W.region_plain (row := none) [(0, false), (1, false), (2, false), (3, false), (4, false), (5, false), (6, false), (7, false), (8, false), (9, false), (10, false), (11, true), (12, false), (13, false), (14, true), (15, false), (16, false), (17, false), (18, false), (19, false), (20, true), (21, false), (22, false), (23, false), (24, true), (25, false), (26, false)] (by kernel_rfl) ?_
      have s73 := SG.self w67 none
      refine W.mv (v := .string (JoinStrings_v0 ks mark)) (h := ?_)
      refine W.mv (v := .string (JoinStrings_v0 ks mark)) (h := ?_)
      refine W.q (v := .bool false) (hr := (r_neqS (s := (JoinStrings_v0 ks mark)) (r := (JoinStrings_v0 ks mark)) rfl (by kernel_rfl) (by kernel_rfl) (by rw [decide_eq_true rfl]; rfl))) (h := ?_)
      refine W.mv (v := .bool false) (h := ?_)
      refine W.mv (v := .bool (JoinStrings_v1 ks mark)) (h := ?_)
      refine W.mv (v := .bool (JoinStrings_v1 ks mark)) (h := ?_)
      refine W.q (v := .bool false) (hr := (r_neqB (m := (JoinStrings_v1 ks mark)) (n := (JoinStrings_v1 ks mark)) rfl (by kernel_rfl) (by kernel_rfl) (by kernel_rfl) (by rw [show ((JoinStrings_v1 ks mark) == (JoinStrings_v1 ks mark)) = true from beq_iff_eq.2 rfl]; rfl))) (h := ?_)
      refine W.q (v := .bool false) (hr := (r_pick (b := false) rfl (by kernel_rfl) (by kernel_rfl))) (h := ?_)
      refine W.mv (v := .bool false) (h := ?_)
      refine W.mv (v := .string x) (h := ?_)
      refine W.mv (v := .string y) (h := ?_)
      refine W.sc (vs := [.string x, .string y]) rfl rfl (by kernel_rfl) (by kernel_rfl) (by kernel_rfl) rfl (LessString_impl x y _) ?_
      rintro e w' ⟨rfl, rfl⟩
      refine ⟨_, rfl, s73, ?_⟩
      rcases Bool.eq_false_or_eq_true (Op.bytesLess x.toList y.toList) with q76 | q76
      · rw [q76]
        refine W.mv (v := .string x) (h := ?_)
        refine W.mv (v := .string y) (h := ?_)
        refine W.sc (vs := [.string x, .string y]) rfl rfl (by kernel_rfl) (by kernel_rfl) (by kernel_rfl) rfl (LessString_spec x y _) ?_
        rintro e w' ⟨rfl, rfl⟩
        refine ⟨_, rfl, s73, ?_⟩
        rw [q76]
        refine W.q (v := .bool false) (hr := (r_neqB (m := true) (n := true) rfl (by kernel_rfl) (by kernel_rfl) (by kernel_rfl) rfl)) (h := ?_)
        refine W.q (v := .bool false) (hr := (r_pick (b := false) rfl (by kernel_rfl) (by kernel_rfl))) (h := ?_)
        refine W.mv (v := .bool false) (h := ?_)
        refine W.mv (v := .string x) (h := ?_)
        refine W.mv (v := .string y) (h := ?_)
        refine W.sc (vs := [.string x, .string y]) rfl rfl (by kernel_rfl) (by kernel_rfl) (by kernel_rfl) rfl (LessString_impl x y _) ?_
        rintro e w' ⟨rfl, rfl⟩
        refine ⟨_, rfl, s73, ?_⟩
        rw [q76]
        refine W.mv (v := .bool true) (h := ?_)
        refine W.mv (v := .string y) (h := ?_)
        refine W.mv (v := .string x) (h := ?_)
        refine W.sc (vs := [.string y, .string x]) rfl rfl (by kernel_rfl) (by kernel_rfl) (by kernel_rfl) rfl (LessString_impl y x _) ?_
        rintro e w' ⟨rfl, rfl⟩
        refine ⟨_, rfl, s73, ?_⟩
        have q85 : (Op.bytesLess y.toList x.toList) = false := less_no q76
        rw [q85]
        refine W.q (v := .bool false) (hr := (r_pick (b := true) rfl (by kernel_rfl) (by kernel_rfl))) (h := ?_)
        refine W.q (v := .bool false) (hr := (r_pick (b := false) rfl (by kernel_rfl) (by kernel_rfl))) (h := ?_)
        refine W.endF 104 [(0, .slice A n c), (2, .bool false), (3, .string s), (4, .string sep), (5, .slice A19 ((SplitString_v0 s sep).length) c21), (6, .bool true), (7, .slice A34 n35 c36), (8, .string mark), (9, .string (JoinStrings_v0 ks mark)), (10, .bool (JoinStrings_v1 ks mark)), (11, .string (JoinStrings_v0 ks mark)), (12, .bool (JoinStrings_v1 ks mark)), (13, .string x), (14, .string y), (18, .bool false), (78, .bool false)] (fun U86 => ?_)
        have c87 := (SG.belowR c72 s73 (fun kq e => by cases e))
        refine h12 _ _ ?_
        refine wp_cond_false (by kernel_rfl) ?_
        refine wp_skip ?_
        refine h11 _ _ ?_
        refine wp_seq_k (fun K13 h13 => ?_)
        refine wp_seq_k (fun K14 h14 => ?_)
        refine W.region_quiet [(0, false), (1, false), (2, false)] (by kernel_rfl) ?_
        refine W.mv (v := .string sep) (h := ?_)
        refine W.q (v := .int .i64 ((sep.size : Nat) : Int)) (hr := (r_lenS (s := sep) rfl (by kernel_rfl) (by kernel_rfl))) (h := ?_)
        refine W.q (v := .bool false) (hr := (r_neq (m := ((sep.size : Nat) : Int)) (n := 1) rfl (by kernel_rfl) (by kernel_rfl) (decide_eq_false ((by have := (split_of q30).1; omega))))) (h := ?_)
        refine W.endF 104 [(0, .slice A n c), (2, .bool false), (3, .string s), (4, .string sep), (5, .slice A19 ((SplitString_v0 s sep).length) c21), (6, .bool true), (7, .slice A34 n35 c36), (8, .string mark), (9, .string (JoinStrings_v0 ks mark)), (10, .bool (JoinStrings_v1 ks mark)), (11, .string (JoinStrings_v0 ks mark)), (12, .bool (JoinStrings_v1 ks mark)), (13, .string x), (14, .string y), (18, .bool false), (78, .bool false), (81, .bool false)] (fun U88 => ?_)
        refine h14 _ _ ?_
        refine wp_cond_false (by kernel_rfl) ?_
        refine wp_skip ?_
        refine h13 _ _ ?_
        refine wp_seq_k (fun K15 h15 => ?_)
        refine W.region_plain (row := none) [(0, false), (1, false), (2, true), (3, false), (4, false), (5, false), (6, false), (7, false)] (by kernel_rfl) ?_
        have s89 := SG.self w67 none
        refine W.mv (v := .slice A19 ((SplitString_v0 s sep).length) c21) (h := ?_)
        refine W.mv (v := .string sep) (h := ?_)
        have hsb := split_back q30
        refine W.sc (vs := [.slice A19 ((SplitString_v0 s sep).length) c21, .string sep]) rfl rfl (by kernel_rfl) (by kernel_rfl) (by kernel_rfl) rfl (JoinStrings_impl A19 ((SplitString_v0 s sep).length) c21 (SplitString_v0 s sep) sep _ (own_rd ho69) (own_fm ho69) (SplitString_len s sep) (fun y hy => by have := split_parts q30 hy; omega) (by omega)) ?_
        rintro e w91 ⟨rfl, b90⟩
        have s92 := SG.of_below s89 b90
        refine ⟨_, rfl, s92, ?_⟩
        have ho93 := own_kept ho69 b90
        have ho94 := own_kept ho70 b90
        have q95 : (JoinStrings_v1 (SplitString_v0 s sep) sep) = true := hsb.1
        rw [q95]
        refine W.mv (v := .tuple #[.string (JoinStrings_v0 (SplitString_v0 s sep) sep), .bool true]) (h := ?_)
        refine W.q (v := .string (JoinStrings_v0 (SplitString_v0 s sep) sep)) (hr := (r_extract (vs := #[.string (JoinStrings_v0 (SplitString_v0 s sep) sep), .bool true]) rfl (by kernel_rfl) (by kernel_rfl))) (h := ?_)
        refine W.q (v := .bool true) (hr := (r_extract (vs := #[.string (JoinStrings_v0 (SplitString_v0 s sep) sep), .bool true]) rfl (by kernel_rfl) (by kernel_rfl))) (h := ?_)
        refine W.as (v := .string (JoinStrings_v0 (SplitString_v0 s sep) sep)) (h := ?_)
        refine W.as (v := .bool true) (h := ?_)
        refine W.endF 104 [(0, .slice A n c), (2, .bool false), (3, .string s), (4, .string sep), (5, .slice A19 ((SplitString_v0 s sep).length) c21), (6, .bool true), (7, .slice A34 n35 c36), (8, .string mark), (9, .string (JoinStrings_v0 ks mark)), (10, .bool (JoinStrings_v1 ks mark)), (11, .string (JoinStrings_v0 ks mark)), (12, .bool (JoinStrings_v1 ks mark)), (13, .string x), (14, .string y), (15, .string (JoinStrings_v0 (SplitString_v0 s sep) sep)), (16, .bool true), (18, .bool false), (78, .bool false), (81, .bool false)] (fun U96 => ?_)
        have c97 := (SG.belowR c87 s92 (fun kq e => by cases e))
        refine h15 _ _ ?_
        refine wp_seq_k (fun K16 h16 => ?_)
        refine W.region_quiet [(0, false), (1, false), (2, false), (3, false), (4, false), (5, false), (6, false), (7, false), (8, false), (9, false)] (by kernel_rfl) ?_
        refine W.mv (v := .bool true) (h := ?_)
        refine W.mv (v := .bool true) (h := ?_)
        refine W.mv (v := .bool true) (h := ?_)
        refine W.q (v := .bool true) (hr := (r_pick (b := true) rfl (by kernel_rfl) (by kernel_rfl))) (h := ?_)
        refine W.mv (v := .bool true) (h := ?_)
        refine W.mv (v := .string (JoinStrings_v0 (SplitString_v0 s sep) sep)) (h := ?_)
        refine W.mv (v := .string s) (h := ?_)
        refine W.q (v := .bool true) (hr := (r_eqlS (s := (JoinStrings_v0 (SplitString_v0 s sep) sep)) (r := s) rfl (by kernel_rfl) (by kernel_rfl) (decide_eq_true hsb.2))) (h := ?_)
        refine W.q (v := .bool true) (hr := (r_pick (b := true) rfl (by kernel_rfl) (by kernel_rfl))) (h := ?_)
        refine W.as (v := .bool true) (h := ?_)
        refine W.endF 104 [(0, .slice A n c), (2, .bool true), (3, .string s), (4, .string sep), (5, .slice A19 ((SplitString_v0 s sep).length) c21), (6, .bool true), (7, .slice A34 n35 c36), (8, .string mark), (9, .string (JoinStrings_v0 ks mark)), (10, .bool (JoinStrings_v1 ks mark)), (11, .string (JoinStrings_v0 ks mark)), (12, .bool (JoinStrings_v1 ks mark)), (13, .string x), (14, .string y), (15, .string (JoinStrings_v0 (SplitString_v0 s sep) sep)), (16, .bool true), (18, .bool false), (78, .bool false), (81, .bool false)] (fun U98 => ?_)
        refine h16 _ _ ?_
        refine wp_ret ?_
        try simp only [Exit.then]
        refine ret1 (v := .bool true) rfl (by kernel_rfl) ?_
        exact ⟨rfl, c97⟩
      · rw [q76]
        refine W.mv (v := .string x) (h := ?_)
        refine W.mv (v := .string y) (h := ?_)
        refine W.sc (vs := [.string x, .string y]) rfl rfl (by kernel_rfl) (by kernel_rfl) (by kernel_rfl) rfl (LessString_spec x y _) ?_
        rintro e w' ⟨rfl, rfl⟩
        refine ⟨_, rfl, s73, ?_⟩
        rw [q76]
        refine W.q (v := .bool false) (hr := (r_neqB (m := false) (n := false) rfl (by kernel_rfl) (by kernel_rfl) (by kernel_rfl) rfl)) (h := ?_)
        refine W.q (v := .bool false) (hr := (r_pick (b := false) rfl (by kernel_rfl) (by kernel_rfl))) (h := ?_)
        refine W.mv (v := .bool false) (h := ?_)
        refine W.mv (v := .string x) (h := ?_)
        refine W.mv (v := .string y) (h := ?_)
        refine W.sc (vs := [.string x, .string y]) rfl rfl (by kernel_rfl) (by kernel_rfl) (by kernel_rfl) rfl (LessString_impl x y _) ?_
        rintro e w' ⟨rfl, rfl⟩
        refine ⟨_, rfl, s73, ?_⟩
        rw [q76]
        refine W.mv (v := .bool false) (h := ?_)
        refine W.sp s73 (h := ?_)
        refine W.sp s73 (h := ?_)
        refine W.sp s73 (h := ?_)
        refine W.q (v := .bool false) (hr := (r_pick (b := false) rfl (by kernel_rfl) (by kernel_rfl))) (h := ?_)
        refine W.q (v := .bool false) (hr := (r_pick (b := false) rfl (by kernel_rfl) (by kernel_rfl))) (h := ?_)
        refine W.endF 104 [(0, .slice A n c), (2, .bool false), (3, .string s), (4, .string sep), (5, .slice A19 ((SplitString_v0 s sep).length) c21), (6, .bool true), (7, .slice A34 n35 c36), (8, .string mark), (9, .string (JoinStrings_v0 ks mark)), (10, .bool (JoinStrings_v1 ks mark)), (11, .string (JoinStrings_v0 ks mark)), (12, .bool (JoinStrings_v1 ks mark)), (13, .string x), (14, .string y), (18, .bool false), (78, .bool false)] (fun U105 => ?_)
        have c106 := (SG.belowR c72 s73 (fun kq e => by cases e))
        refine h12 _ _ ?_
        refine wp_cond_false (by kernel_rfl) ?_
        refine wp_skip ?_
        refine h11 _ _ ?_
        refine wp_seq_k (fun K17 h17 => ?_)
        refine wp_seq_k (fun K18 h18 => ?_)
        refine W.region_quiet [(0, false), (1, false), (2, false)] (by kernel_rfl) ?_
        refine W.mv (v := .string sep) (h := ?_)
        refine W.q (v := .int .i64 ((sep.size : Nat) : Int)) (hr := (r_lenS (s := sep) rfl (by kernel_rfl) (by kernel_rfl))) (h := ?_)
        refine W.q (v := .bool false) (hr := (r_neq (m := ((sep.size : Nat) : Int)) (n := 1) rfl (by kernel_rfl) (by kernel_rfl) (decide_eq_false ((by have := (split_of q30).1; omega))))) (h := ?_)
        refine W.endF 104 [(0, .slice A n c), (2, .bool false), (3, .string s), (4, .string sep), (5, .slice A19 ((SplitString_v0 s sep).length) c21), (6, .bool true), (7, .slice A34 n35 c36), (8, .string mark), (9, .string (JoinStrings_v0 ks mark)), (10, .bool (JoinStrings_v1 ks mark)), (11, .string (JoinStrings_v0 ks mark)), (12, .bool (JoinStrings_v1 ks mark)), (13, .string x), (14, .string y), (18, .bool false), (78, .bool false), (81, .bool false)] (fun U107 => ?_)
        refine h18 _ _ ?_
        refine wp_cond_false (by kernel_rfl) ?_
        refine wp_skip ?_
        refine h17 _ _ ?_
        refine wp_seq_k (fun K19 h19 => ?_)
        refine W.region_plain (row := none) [(0, false), (1, false), (2, true), (3, false), (4, false), (5, false), (6, false), (7, false)] (by kernel_rfl) ?_
        have s108 := SG.self w67 none
        refine W.mv (v := .slice A19 ((SplitString_v0 s sep).length) c21) (h := ?_)
        refine W.mv (v := .string sep) (h := ?_)
        have hsb := split_back q30
        refine W.sc (vs := [.slice A19 ((SplitString_v0 s sep).length) c21, .string sep]) rfl rfl (by kernel_rfl) (by kernel_rfl) (by kernel_rfl) rfl (JoinStrings_impl A19 ((SplitString_v0 s sep).length) c21 (SplitString_v0 s sep) sep _ (own_rd ho69) (own_fm ho69) (SplitString_len s sep) (fun y hy => by have := split_parts q30 hy; omega) (by omega)) ?_
        rintro e w110 ⟨rfl, b109⟩
        have s111 := SG.of_below s108 b109
        refine ⟨_, rfl, s111, ?_⟩
        have ho112 := own_kept ho69 b109
        have ho113 := own_kept ho70 b109
        have q114 : (JoinStrings_v1 (SplitString_v0 s sep) sep) = true := hsb.1
        rw [q114]
        refine W.mv (v := .tuple #[.string (JoinStrings_v0 (SplitString_v0 s sep) sep), .bool true]) (h := ?_)
        refine W.q (v := .string (JoinStrings_v0 (SplitString_v0 s sep) sep)) (hr := (r_extract (vs := #[.string (JoinStrings_v0 (SplitString_v0 s sep) sep), .bool true]) rfl (by kernel_rfl) (by kernel_rfl))) (h := ?_)
        refine W.q (v := .bool true) (hr := (r_extract (vs := #[.string (JoinStrings_v0 (SplitString_v0 s sep) sep), .bool true]) rfl (by kernel_rfl) (by kernel_rfl))) (h := ?_)
        refine W.as (v := .string (JoinStrings_v0 (SplitString_v0 s sep) sep)) (h := ?_)
        refine W.as (v := .bool true) (h := ?_)
        refine W.endF 104 [(0, .slice A n c), (2, .bool false), (3, .string s), (4, .string sep), (5, .slice A19 ((SplitString_v0 s sep).length) c21), (6, .bool true), (7, .slice A34 n35 c36), (8, .string mark), (9, .string (JoinStrings_v0 ks mark)), (10, .bool (JoinStrings_v1 ks mark)), (11, .string (JoinStrings_v0 ks mark)), (12, .bool (JoinStrings_v1 ks mark)), (13, .string x), (14, .string y), (15, .string (JoinStrings_v0 (SplitString_v0 s sep) sep)), (16, .bool true), (18, .bool false), (78, .bool false), (81, .bool false)] (fun U115 => ?_)
        have c116 := (SG.belowR c106 s111 (fun kq e => by cases e))
        refine h19 _ _ ?_
        refine wp_seq_k (fun K20 h20 => ?_)
        refine W.region_quiet [(0, false), (1, false), (2, false), (3, false), (4, false), (5, false), (6, false), (7, false), (8, false), (9, false)] (by kernel_rfl) ?_
        refine W.mv (v := .bool true) (h := ?_)
        refine W.mv (v := .bool true) (h := ?_)
        refine W.mv (v := .bool true) (h := ?_)
        refine W.q (v := .bool true) (hr := (r_pick (b := true) rfl (by kernel_rfl) (by kernel_rfl))) (h := ?_)
        refine W.mv (v := .bool true) (h := ?_)
        refine W.mv (v := .string (JoinStrings_v0 (SplitString_v0 s sep) sep)) (h := ?_)
        refine W.mv (v := .string s) (h := ?_)
        refine W.q (v := .bool true) (hr := (r_eqlS (s := (JoinStrings_v0 (SplitString_v0 s sep) sep)) (r := s) rfl (by kernel_rfl) (by kernel_rfl) (decide_eq_true hsb.2))) (h := ?_)
        refine W.q (v := .bool true) (hr := (r_pick (b := true) rfl (by kernel_rfl) (by kernel_rfl))) (h := ?_)
        refine W.as (v := .bool true) (h := ?_)
        refine W.endF 104 [(0, .slice A n c), (2, .bool true), (3, .string s), (4, .string sep), (5, .slice A19 ((SplitString_v0 s sep).length) c21), (6, .bool true), (7, .slice A34 n35 c36), (8, .string mark), (9, .string (JoinStrings_v0 ks mark)), (10, .bool (JoinStrings_v1 ks mark)), (11, .string (JoinStrings_v0 ks mark)), (12, .bool (JoinStrings_v1 ks mark)), (13, .string x), (14, .string y), (15, .string (JoinStrings_v0 (SplitString_v0 s sep) sep)), (16, .bool true), (18, .bool false), (78, .bool false), (81, .bool false)] (fun U117 => ?_)
        refine h20 _ _ ?_
        refine wp_ret ?_
        try simp only [Exit.then]
        refine ret1 (v := .bool true) rfl (by kernel_rfl) ?_
        exact ⟨rfl, c116⟩
    · rw [q30]
      refine W.mv (v := .tuple #[.slice A19 ((SplitString_v0 s sep).length) c21, .bool false]) (h := ?_)
      refine W.q (v := .slice A19 ((SplitString_v0 s sep).length) c21) (hr := (r_extract (vs := #[.slice A19 ((SplitString_v0 s sep).length) c21, .bool false]) rfl (by kernel_rfl) (by kernel_rfl))) (h := ?_)
      refine W.q (v := .bool false) (hr := (r_extract (vs := #[.slice A19 ((SplitString_v0 s sep).length) c21, .bool false]) rfl (by kernel_rfl) (by kernel_rfl))) (h := ?_)
      refine W.as (v := .slice A19 ((SplitString_v0 s sep).length) c21) (h := ?_)
      refine W.as (v := .bool false) (h := ?_)
      refine W.endF 104 [(0, .slice A n c), (2, .bool false), (3, .string s), (4, .string sep), (5, .slice A19 ((SplitString_v0 s sep).length) c21), (6, .bool false), (18, .bool false)] (fun U118 => ?_)
      have c119 := (SG.belowR c17 s29 (fun kq e => by cases e))
      refine h6 _ _ ?_
      refine wp_seq_k (fun K21 h21 => ?_)
      refine W.region_plain (row := none) [(0, false), (1, true), (2, false), (3, false), (4, false), (5, false), (6, false)] (by kernel_rfl) ?_
      have s120 := SG.self w28 none
      refine W.mv (v := .slice A n c) (h := ?_)
      have z126 := ((SG.belowR c119 s120 (fun kq e => by cases e))).size
      refine W.sc (vs := [.slice A n c]) rfl rfl (by kernel_rfl) (by kernel_rfl) (by kernel_rfl) rfl (DrawJoinStrings_any A n c zs _ (Rd.kept hcode (SG.belowR c119 s120 (fun kq e => by cases e))) hz (by have h9 := of_decide_eq_false q6; omega)) ?_
      rintro e w130 ⟨A121, n122, c123, ks, mark, rfl, ho124, hks5, hksz, hmk, b129⟩
      have s131 := SG.of_below s120 b129
      refine ⟨_, rfl, s131, ?_⟩
      have ho132 := own_kept ho23 b129
      have ho125 := own_base (base' := w.heap.size) ho124 z126
      have hl128 := rd_strs_len (own_rd ho125)
      have nr133 : NbR (.slice A121 n122 c123) (.slice A19 ((SplitString_v0 s sep).length) c21) := fun j e1 e2 => by have h8 := (World.ownsRow.lt ho124 j e1).1; have h9 := (World.ownsRow.lt ho23 j e2).2; omega
      refine W.mv (v := .tuple #[.slice A121 n122 c123, .string mark]) (h := ?_)
      refine W.q (v := .slice A121 n122 c123) (hr := (r_extract (vs := #[.slice A121 n122 c123, .string mark]) rfl (by kernel_rfl) (by kernel_rfl))) (h := ?_)
      refine W.q (v := .string mark) (hr := (r_extract (vs := #[.slice A121 n122 c123, .string mark]) rfl (by kernel_rfl) (by kernel_rfl))) (h := ?_)
      refine W.as (v := .slice A121 n122 c123) (h := ?_)
      refine W.as (v := .string mark) (h := ?_)
      refine W.endF 104 [(0, .slice A n c), (2, .bool false), (3, .string s), (4, .string sep), (5, .slice A19 ((SplitString_v0 s sep).length) c21), (6, .bool false), (7, .slice A121 n122 c123), (8, .string mark), (18, .bool false)] (fun U134 => ?_)
      have c135 := (SG.belowR c119 s131 (fun kq e => by cases e))
      refine h21 _ _ ?_
      refine wp_seq_k (fun K22 h22 => ?_)
      refine W.region_plain (row := none) [(0, false), (1, false), (2, true), (3, false), (4, false), (5, false), (6, false), (7, false)] (by kernel_rfl) ?_
      have s136 := SG.self w130 none
      refine W.mv (v := .slice A121 n122 c123) (h := ?_)
      refine W.mv (v := .string mark) (h := ?_)
      refine W.sc (vs := [.slice A121 n122 c123, .string mark]) rfl rfl (by kernel_rfl) (by kernel_rfl) (by kernel_rfl) rfl (JoinStrings_impl A121 n122 c123 ks mark _ (own_rd ho125) (own_fm ho125) (by have h9 := own_len ho125; rw [strs_len] at h9; omega) (fun y hy => by have := hksz y hy; omega) (by omega)) ?_
      rintro e w138 ⟨rfl, b137⟩
      have s139 := SG.of_below s136 b137
      refine ⟨_, rfl, s139, ?_⟩
      have ho140 := own_kept ho132 b137
      have ho141 := own_kept ho125 b137
      refine W.mv (v := .tuple #[.string (JoinStrings_v0 ks mark), .bool (JoinStrings_v1 ks mark)]) (h := ?_)
      refine W.q (v := .string (JoinStrings_v0 ks mark)) (hr := (r_extract (vs := #[.string (JoinStrings_v0 ks mark), .bool (JoinStrings_v1 ks mark)]) rfl (by kernel_rfl) (by kernel_rfl))) (h := ?_)
      refine W.q (v := .bool (JoinStrings_v1 ks mark)) (hr := (r_extract (vs := #[.string (JoinStrings_v0 ks mark), .bool (JoinStrings_v1 ks mark)]) rfl (by kernel_rfl) (by kernel_rfl))) (h := ?_)
      refine W.as (v := .string (JoinStrings_v0 ks mark)) (h := ?_)
      refine W.as (v := .bool (JoinStrings_v1 ks mark)) (h := ?_)
      refine W.endF 104 [(0, .slice A n c), (2, .bool false), (3, .string s), (4, .string sep), (5, .slice A19 ((SplitString_v0 s sep).length) c21), (6, .bool false), (7, .slice A121 n122 c123), (8, .string mark), (9, .string (JoinStrings_v0 ks mark)), (10, .bool (JoinStrings_v1 ks mark)), (18, .bool false)] (fun U142 => ?_)
      have c143 := (SG.belowR c135 s139 (fun kq e => by cases e))
      refine h22 _ _ ?_
      refine wp_seq_k (fun K23 h23 => ?_)
      refine W.region_plain (row := none) [(0, false), (1, false), (2, true), (3, false), (4, false), (5, false), (6, false), (7, false)] (by kernel_rfl) ?_
      have s144 := SG.self w138 none
      refine W.mv (v := .slice A121 n122 c123) (h := ?_)
      refine W.mv (v := .string mark) (h := ?_)
      refine W.sc (vs := [.slice A121 n122 c123, .string mark]) rfl rfl (by kernel_rfl) (by kernel_rfl) (by kernel_rfl) rfl (JoinStrings_spec A121 n122 c123 ks mark _ (own_rd ho141) (by have h9 := own_len ho141; rw [strs_len] at h9; omega) (fun y hy => by have := hksz y hy; omega) (by omega)) ?_
      rintro e w146 ⟨rfl, b145⟩
      have s147 := SG.of_below s144 b145
      refine ⟨_, rfl, s147, ?_⟩
      have ho148 := own_kept ho140 b145
      have ho149 := own_kept ho141 b145
      refine W.mv (v := .tuple #[.string (JoinStrings_v0 ks mark), .bool (JoinStrings_v1 ks mark)]) (h := ?_)
      refine W.q (v := .string (JoinStrings_v0 ks mark)) (hr := (r_extract (vs := #[.string (JoinStrings_v0 ks mark), .bool (JoinStrings_v1 ks mark)]) rfl (by kernel_rfl) (by kernel_rfl))) (h := ?_)
      refine W.q (v := .bool (JoinStrings_v1 ks mark)) (hr := (r_extract (vs := #[.string (JoinStrings_v0 ks mark), .bool (JoinStrings_v1 ks mark)]) rfl (by kernel_rfl) (by kernel_rfl))) (h := ?_)
      refine W.as (v := .string (JoinStrings_v0 ks mark)) (h := ?_)
      refine W.as (v := .bool (JoinStrings_v1 ks mark)) (h := ?_)
      refine W.endF 104 [(0, .slice A n c), (2, .bool false), (3, .string s), (4, .string sep), (5, .slice A19 ((SplitString_v0 s sep).length) c21), (6, .bool false), (7, .slice A121 n122 c123), (8, .string mark), (9, .string (JoinStrings_v0 ks mark)), (10, .bool (JoinStrings_v1 ks mark)), (11, .string (JoinStrings_v0 ks mark)), (12, .bool (JoinStrings_v1 ks mark)), (18, .bool false)] (fun U150 => ?_)
      have c151 := (SG.belowR c143 s147 (fun kq e => by cases e))
      refine h23 _ _ ?_
      refine wp_seq_k (fun K24 h24 => ?_)
      refine W.region_plain (row := none) [(0, false), (1, true), (2, false), (3, false), (4, false), (5, false), (6, false)] (by kernel_rfl) ?_
      have s152 := SG.self w146 none
      refine W.mv (v := .slice A n c) (h := ?_)
      refine W.sc (vs := [.slice A n c]) rfl rfl (by kernel_rfl) (by kernel_rfl) (by kernel_rfl) rfl (DrawLessString_any A n c zs _ (Rd.kept hcode (SG.belowR c151 s152 (fun kq e => by cases e))) hz (by have h9 := of_decide_eq_false q6; omega)) ?_
      rintro e w154 ⟨x, y, rfl, b153⟩
      have s155 := SG.of_below s152 b153
      refine ⟨_, rfl, s155, ?_⟩
      have ho156 := own_kept ho148 b153
      have ho157 := own_kept ho149 b153
      refine W.mv (v := .tuple #[.string x, .string y]) (h := ?_)
      refine W.q (v := .string x) (hr := (r_extract (vs := #[.string x, .string y]) rfl (by kernel_rfl) (by kernel_rfl))) (h := ?_)
      refine W.q (v := .string y) (hr := (r_extract (vs := #[.string x, .string y]) rfl (by kernel_rfl) (by kernel_rfl))) (h := ?_)
      refine W.as (v := .string x) (h := ?_)
      refine W.as (v := .string y) (h := ?_)
      refine W.endF 104 [(0, .slice A n c), (2, .bool false), (3, .string s), (4, .string sep), (5, .slice A19 ((SplitString_v0 s sep).length) c21), (6, .bool false), (7, .slice A121 n122 c123), (8, .string mark), (9, .string (JoinStrings_v0 ks mark)), (10, .bool (JoinStrings_v1 ks mark)), (11, .string (JoinStrings_v0 ks mark)), (12, .bool (JoinStrings_v1 ks mark)), (13, .string x), (14, .string y), (18, .bool false)] (fun U158 => ?_)
      have c159 := (SG.belowR c151 s155 (fun kq e => by cases e))
      refine h24 _ _ ?_
      refine wp_seq_k (fun K25 h25 => ?_)
      refine wp_seq_k (fun K26 h26 => ?_)
      refine W.region_plain (row := none) [(0, false), (1, false), (2, false), (3, false), (4, false), (5, false), (6, false), (7, false), (8, false), (9, false), (10, false), (11, true), (12, false), (13, false), (14, true), (15, false), (16, false), (17, false), (18, false), (19, false), (20, true), (21, false), (22, false), (23, false), (24, true), (25, false), (26, false)] (by kernel_rfl) ?_
      have s160 := SG.self w154 none
      refine W.mv (v := .string (JoinStrings_v0 ks mark)) (h := ?_)
      refine W.mv (v := .string (JoinStrings_v0 ks mark)) (h := ?_)
      refine W.q (v := .bool false) (hr := (r_neqS (s := (JoinStrings_v0 ks mark)) (r := (JoinStrings_v0 ks mark)) rfl (by kernel_rfl) (by kernel_rfl) (by rw [decide_eq_true rfl]; rfl))) (h := ?_)
      refine W.mv (v := .bool false) (h := ?_)
      refine W.mv (v := .bool (JoinStrings_v1 ks mark)) (h := ?_)
      refine W.mv (v := .bool (JoinStrings_v1 ks mark)) (h := ?_)
      refine W.q (v := .bool false) (hr := (r_neqB (m := (JoinStrings_v1 ks mark)) (n := (JoinStrings_v1 ks mark)) rfl (by kernel_rfl) (by kernel_rfl) (by kernel_rfl) (by rw [show ((JoinStrings_v1 ks mark) == (JoinStrings_v1 ks mark)) = true from beq_iff_eq.2 rfl]; rfl))) (h := ?_)
      refine W.q (v := .bool false) (hr := (r_pick (b := false) rfl (by kernel_rfl) (by kernel_rfl))) (h := ?_)
      refine W.mv (v := .bool false) (h := ?_)
      refine W.mv (v := .string x) (h := ?_)
      refine W.mv (v := .string y) (h := ?_)
      refine W.sc (vs := [.string x, .string y]) rfl rfl (by kernel_rfl) (by kernel_rfl) (by kernel_rfl) rfl (LessString_impl x y _) ?_
      rintro e w' ⟨rfl, rfl⟩
      refine ⟨_, rfl, s160, ?_⟩
      rcases Bool.eq_false_or_eq_true (Op.bytesLess x.toList y.toList) with q163 | q163
      · rw [q163]
        refine W.mv (v := .string x) (h := ?_)
        refine W.mv (v := .string y) (h := ?_)
        refine W.sc (vs := [.string x, .string y]) rfl rfl (by kernel_rfl) (by kernel_rfl) (by kernel_rfl) rfl (LessString_spec x y _) ?_
        rintro e w' ⟨rfl, rfl⟩
        refine ⟨_, rfl, s160, ?_⟩
        rw [q163]
        refine W.q (v := .bool false) (hr := (r_neqB (m := true) (n := true) rfl (by kernel_rfl) (by kernel_rfl) (by kernel_rfl) rfl)) (h := ?_)
        refine W.q (v := .bool false) (hr := (r_pick (b := false) rfl (by kernel_rfl) (by kernel_rfl))) (h := ?_)
        refine W.mv (v := .bool false) (h := ?_)
        refine W.mv (v := .string x) (h := ?_)
        refine W.mv (v := .string y) (h := ?_)
        refine W.sc (vs := [.string x, .string y]) rfl rfl (by kernel_rfl) (by kernel_rfl) (by kernel_rfl) rfl (LessString_impl x y _) ?_
        rintro e w' ⟨rfl, rfl⟩
        refine ⟨_, rfl, s160, ?_⟩
        rw [q163]
        refine W.mv (v := .bool true) (h := ?_)
        refine W.mv (v := .string y) (h := ?_)
        refine W.mv (v := .string x) (h := ?_)
        refine W.sc (vs := [.string y, .string x]) rfl rfl (by kernel_rfl) (by kernel_rfl) (by kernel_rfl) rfl (LessString_impl y x _) ?_
        rintro e w' ⟨rfl, rfl⟩
        refine ⟨_, rfl, s160, ?_⟩
        have q172 : (Op.bytesLess y.toList x.toList) = false := less_no q163
        rw [q172]
        refine W.q (v := .bool false) (hr := (r_pick (b := true) rfl (by kernel_rfl) (by kernel_rfl))) (h := ?_)
        refine W.q (v := .bool false) (hr := (r_pick (b := false) rfl (by kernel_rfl) (by kernel_rfl))) (h := ?_)
        refine W.endF 104 [(0, .slice A n c), (2, .bool false), (3, .string s), (4, .string sep), (5, .slice A19 ((SplitString_v0 s sep).length) c21), (6, .bool false), (7, .slice A121 n122 c123), (8, .string mark), (9, .string (JoinStrings_v0 ks mark)), (10, .bool (JoinStrings_v1 ks mark)), (11, .string (JoinStrings_v0 ks mark)), (12, .bool (JoinStrings_v1 ks mark)), (13, .string x), (14, .string y), (18, .bool false), (78, .bool false)] (fun U173 => ?_)
        have c174 := (SG.belowR c159 s160 (fun kq e => by cases e))
        refine h26 _ _ ?_
        refine wp_cond_false (by kernel_rfl) ?_
        refine wp_skip ?_
        refine h25 _ _ ?_
        refine wp_seq_k (fun K27 h27 => ?_)
        refine wp_seq_k (fun K28 h28 => ?_)
        refine W.region_quiet [(0, false), (1, false), (2, false)] (by kernel_rfl) ?_
        refine W.mv (v := .string sep) (h := ?_)
        refine W.q (v := .int .i64 ((sep.size : Nat) : Int)) (hr := (r_lenS (s := sep) rfl (by kernel_rfl) (by kernel_rfl))) (h := ?_)
        refine W.q (v := .bool true) (hr := (r_neq (m := ((sep.size : Nat) : Int)) (n := 1) rfl (by kernel_rfl) (by kernel_rfl) (decide_eq_true ((by have := (split_not q30 hs10).1; omega))))) (h := ?_)
        refine W.endF 104 [(0, .slice A n c), (2, .bool false), (3, .string s), (4, .string sep), (5, .slice A19 ((SplitString_v0 s sep).length) c21), (6, .bool false), (7, .slice A121 n122 c123), (8, .string mark), (9, .string (JoinStrings_v0 ks mark)), (10, .bool (JoinStrings_v1 ks mark)), (11, .string (JoinStrings_v0 ks mark)), (12, .bool (JoinStrings_v1 ks mark)), (13, .string x), (14, .string y), (18, .bool false), (78, .bool false), (81, .bool true)] (fun U175 => ?_)
        refine h28 _ _ ?_
        refine wp_cond_true (by kernel_rfl) ?_
        refine wp_seq_k (fun K29 h29 => ?_)
        refine W.region_quiet [(0, false), (1, false), (2, false), (3, false), (4, false), (5, false), (6, false), (7, false)] (by kernel_rfl) ?_
        refine W.mv (v := .bool false) (h := ?_)
        refine W.q (v := .bool true) (hr := (r_not (b := false) rfl (by kernel_rfl) rfl)) (h := ?_)
        refine W.mv (v := .bool true) (h := ?_)
        refine W.mv (v := .slice A19 ((SplitString_v0 s sep).length) c21) (h := ?_)
        refine W.q (v := .int .i64 (((SplitString_v0 s sep).length : Nat) : Int)) (hr := (r_len (A := A19) (n := (SplitString_v0 s sep).length) (c := c21) rfl (by kernel_rfl) (by kernel_rfl))) (h := ?_)
        refine W.q (v := .bool true) (hr := (r_eql (m := (((SplitString_v0 s sep).length : Nat) : Int)) (n := 0) rfl (by kernel_rfl) (by kernel_rfl) (decide_eq_true ((by rw [(split_not q30 hs10).2]; rfl))))) (h := ?_)
        refine W.q (v := .bool true) (hr := (r_pick (b := true) rfl (by kernel_rfl) (by kernel_rfl))) (h := ?_)
        refine W.as (v := .bool true) (h := ?_)
        refine W.endF 104 [(0, .slice A n c), (2, .bool true), (3, .string s), (4, .string sep), (5, .slice A19 ((SplitString_v0 s sep).length) c21), (6, .bool false), (7, .slice A121 n122 c123), (8, .string mark), (9, .string (JoinStrings_v0 ks mark)), (10, .bool (JoinStrings_v1 ks mark)), (11, .string (JoinStrings_v0 ks mark)), (12, .bool (JoinStrings_v1 ks mark)), (13, .string x), (14, .string y), (18, .bool false), (78, .bool false), (81, .bool true)] (fun U176 => ?_)
        refine h29 _ _ ?_
        refine wp_ret ?_
        try simp only [Exit.then]
        refine ret1 (v := .bool true) rfl (by kernel_rfl) ?_
        exact ⟨rfl, c174⟩
      · rw [q163]
        refine W.mv (v := .string x) (h := ?_)
        refine W.mv (v := .string y) (h := ?_)
        refine W.sc (vs := [.string x, .string y]) rfl rfl (by kernel_rfl) (by kernel_rfl) (by kernel_rfl) rfl (LessString_spec x y _) ?_
        rintro e w' ⟨rfl, rfl⟩
        refine ⟨_, rfl, s160, ?_⟩
        rw [q163]
        refine W.q (v := .bool false) (hr := (r_neqB (m := false) (n := false) rfl (by kernel_rfl) (by kernel_rfl) (by kernel_rfl) rfl)) (h := ?_)
        refine W.q (v := .bool false) (hr := (r_pick (b := false) rfl (by kernel_rfl) (by kernel_rfl))) (h := ?_)
        refine W.mv (v := .bool false) (h := ?_)
        refine W.mv (v := .string x) (h := ?_)
        refine W.mv (v := .string y) (h := ?_)
        refine W.sc (vs := [.string x, .string y]) rfl rfl (by kernel_rfl) (by kernel_rfl) (by kernel_rfl) rfl (LessString_impl x y _) ?_
        rintro e w' ⟨rfl, rfl⟩
        refine ⟨_, rfl, s160, ?_⟩
        rw [q163]
        refine W.mv (v := .bool false) (h := ?_)
        refine W.sp s160 (h := ?_)
        refine W.sp s160 (h := ?_)
        refine W.sp s160 (h := ?_)
        refine W.q (v := .bool false) (hr := (r_pick (b := false) rfl (by kernel_rfl) (by kernel_rfl))) (h := ?_)
        refine W.q (v := .bool false) (hr := (r_pick (b := false) rfl (by kernel_rfl) (by kernel_rfl))) (h := ?_)
        refine W.endF 104 [(0, .slice A n c), (2, .bool false), (3, .string s), (4, .string sep), (5, .slice A19 ((SplitString_v0 s sep).length) c21), (6, .bool false), (7, .slice A121 n122 c123), (8, .string mark), (9, .string (JoinStrings_v0 ks mark)), (10, .bool (JoinStrings_v1 ks mark)), (11, .string (JoinStrings_v0 ks mark)), (12, .bool (JoinStrings_v1 ks mark)), (13, .string x), (14, .string y), (18, .bool false), (78, .bool false)] (fun U183 => ?_)
        have c184 := (SG.belowR c159 s160 (fun kq e => by cases e))
        refine h26 _ _ ?_
        refine wp_cond_false (by kernel_rfl) ?_
        refine wp_skip ?_
        refine h25 _ _ ?_
        refine wp_seq_k (fun K30 h30 => ?_)
        refine wp_seq_k (fun K31 h31 => ?_)
        refine W.region_quiet [(0, false), (1, false), (2, false)] (by kernel_rfl) ?_
        refine W.mv (v := .string sep) (h := ?_)
        refine W.q (v := .int .i64 ((sep.size : Nat) : Int)) (hr := (r_lenS (s := sep) rfl (by kernel_rfl) (by kernel_rfl))) (h := ?_)
        refine W.q (v := .bool true) (hr := (r_neq (m := ((sep.size : Nat) : Int)) (n := 1) rfl (by kernel_rfl) (by kernel_rfl) (decide_eq_true ((by have := (split_not q30 hs10).1; omega))))) (h := ?_)
        refine W.endF 104 [(0, .slice A n c), (2, .bool false), (3, .string s), (4, .string sep), (5, .slice A19 ((SplitString_v0 s sep).length) c21), (6, .bool false), (7, .slice A121 n122 c123), (8, .string mark), (9, .string (JoinStrings_v0 ks mark)), (10, .bool (JoinStrings_v1 ks mark)), (11, .string (JoinStrings_v0 ks mark)), (12, .bool (JoinStrings_v1 ks mark)), (13, .string x), (14, .string y), (18, .bool false), (78, .bool false), (81, .bool true)] (fun U185 => ?_)
        refine h31 _ _ ?_
        refine wp_cond_true (by kernel_rfl) ?_
        refine wp_seq_k (fun K32 h32 => ?_)
        refine W.region_quiet [(0, false), (1, false), (2, false), (3, false), (4, false), (5, false), (6, false), (7, false)] (by kernel_rfl) ?_
        refine W.mv (v := .bool false) (h := ?_)
        refine W.q (v := .bool true) (hr := (r_not (b := false) rfl (by kernel_rfl) rfl)) (h := ?_)
        refine W.mv (v := .bool true) (h := ?_)
        refine W.mv (v := .slice A19 ((SplitString_v0 s sep).length) c21) (h := ?_)
        refine W.q (v := .int .i64 (((SplitString_v0 s sep).length : Nat) : Int)) (hr := (r_len (A := A19) (n := (SplitString_v0 s sep).length) (c := c21) rfl (by kernel_rfl) (by kernel_rfl))) (h := ?_)
        refine W.q (v := .bool true) (hr := (r_eql (m := (((SplitString_v0 s sep).length : Nat) : Int)) (n := 0) rfl (by kernel_rfl) (by kernel_rfl) (decide_eq_true ((by rw [(split_not q30 hs10).2]; rfl))))) (h := ?_)
        refine W.q (v := .bool true) (hr := (r_pick (b := true) rfl (by kernel_rfl) (by kernel_rfl))) (h := ?_)
        refine W.as (v := .bool true) (h := ?_)
        refine W.endF 104 [(0, .slice A n c), (2, .bool true), (3, .string s), (4, .string sep), (5, .slice A19 ((SplitString_v0 s sep).length) c21), (6, .bool false), (7, .slice A121 n122 c123), (8, .string mark), (9, .string (JoinStrings_v0 ks mark)), (10, .bool (JoinStrings_v1 ks mark)), (11, .string (JoinStrings_v0 ks mark)), (12, .bool (JoinStrings_v1 ks mark)), (13, .string x), (14, .string y), (18, .bool false), (78, .bool false), (81, .bool true)] (fun U186 => ?_)
        refine h32 _ _ ?_
        refine wp_ret ?_
        try simp only [Exit.then]
        refine ret1 (v := .bool true) rfl (by kernel_rfl) ?_
        exact ⟨rfl, c184⟩

theorem byte_of {n : Int} (h : (Lit.int .u8 n).wf = true) : 0 ≤ n ∧ n < 256 := by
  have h2 : (decide ((0 : Int) ≤ n) && decide (n ≤ 255)) = true := h
  simp only [Bool.and_eq_true, decide_eq_true_eq] at h2
  omega
theorem w_FnSplitJoin (x0 : Option Addr) (n0 p0 : Nat) (a0 : List Int) (w : World) (H0 : a0.length = n0 ∧ Rd w 1 x0 n0 (a0.map (Value.int .u8)) ∧ n0 ≤ maxLen ∧ ∀ n ∈ a0, (Lit.int .u8 n).wf = true) :
    Calls Try.prog 8 #[.slice x0 n0 p0] w fun e w' => e = .returned (.bool true) ∧ Below w.heap.size w w' :=
  wi_FnSplitJoin x0 n0 p0 a0 w H0.2.1 (fun z hz => byte_of (H0.2.2.2 z hz)) (by have := H0.2.2.1; unfold maxLen at this; omega)

end Go.Proofs.Ytgpallafdmjbdaa
