/- The walk of the law FnExactJoinStrings. -/
import Derived.Test.YtgpallafdmjbdaaJoin
import Derived.Test.YtgpallafdmjbdaaStrM
import Derived.Test.YtgpallafdmjbdaaRows
namespace Go.Proofs.Ytgpallafdmjbdaa
open Go.RowKit
set_option linter.unusedVariables false
set_option linter.unusedSimpArgs false

theorem szT_ge {left : Int} {zs : List ByteArray} (h : ¬ szT left zs < 0) : (zs.length : Int) + (lenSum zs : Int) ≤ left := by
  by_cases h1 : (zs.length : Int) + (lenSum zs : Int) ≤ left
  · exact h1
  · exact absurd (by rw [szT_neg h1]; decide) h
theorem eqStringS_two (A B : Option Addr) (n n' c d : Nat) (zs : List ByteArray) (w : World) (ha : Rd w 1 A n (strsV zs)) (hb : Rd w 1 B n' (strsV zs)) (hn : n ≤ 9223372036854775807) :
    Calls Try.prog 15 #[.slice A n c, .slice B n' d] w fun e w' => e = .returned (.bool true) ∧ Below w.heap.size w w' := by
  obtain rfl : n = n' := by have h1 := rd_strs_len ha; have h2 := rd_strs_len hb; omega
  exact eqStringS_below A B n c d zs w ha hb hn

set_option maxRecDepth 100000 in
set_option maxHeartbeats 1000000 in
theorem w_FnExactJoinStrings (x0 : Option Addr) (n0 p0 : Nat) (a0 : List ByteArray) (a1 : ByteArray) (k1 : a1.size ≤ maxLen) (w : World) (H0 : a0.length = n0 ∧ Rd w 1 x0 n0 (strsV a0) ∧ n0 ≤ maxLen ∧ ∀ s ∈ a0, s.size ≤ maxLen) :
    Calls Try.prog 7 #[.slice x0 n0 p0, .string a1] w fun e w' => e = .returned (.bool true) ∧ Below w.heap.size w w' := by
  obtain ⟨_, h0, z0, x0s⟩ := H0
  unfold maxLen at z0 k1 x0s
  have hl0 := rd_strs_len h0
  go_enter Try.func7, Try.ntmps7
  refine wp_seq_k (fun K1 h1 => ?_)
  refine W.region_quiet [(0, false)] (by kernel_rfl) ?_
  refine W.as (v := .bool false) (h := ?_)
  refine W.endF 47 [(0, .slice x0 n0 p0), (1, .string a1), (4, .bool false)] (fun U1 => ?_)
  refine h1 _ _ ?_
  refine wp_seq_k (fun K2 h2 => ?_)
  refine wp_seq_k (fun K3 h3 => ?_)
  refine W.region_quiet [(0, false), (1, false), (2, false)] (by kernel_rfl) ?_
  refine W.mv (v := .string a1) (h := ?_)
  refine W.q (v := .int .i64 ((a1.size : Nat) : Int)) (hr := (r_lenS (s := a1) rfl (by kernel_rfl) (by kernel_rfl))) (h := ?_)
  by_cases q2 : (((a1.size : Nat) : Int) : Int) > (1048576 : Int)
  · refine W.q (v := .bool true) (hr := (r_gtr (m := ((a1.size : Nat) : Int)) (n := 1048576) rfl (by kernel_rfl) (by kernel_rfl) (decide_eq_true q2))) (h := ?_)
    refine W.endF 47 [(0, .slice x0 n0 p0), (1, .string a1), (4, .bool false), (13, .bool true)] (fun U3 => ?_)
    refine h3 _ _ ?_
    refine wp_cond_true (by kernel_rfl) ?_
    refine wp_seq_k (fun K4 h4 => ?_)
    refine W.region_quiet [(0, false)] (by kernel_rfl) ?_
    refine W.as (v := .bool true) (h := ?_)
    refine W.endF 47 [(0, .slice x0 n0 p0), (1, .string a1), (4, .bool true), (13, .bool true)] (fun U4 => ?_)
    refine h4 _ _ ?_
    refine wp_ret ?_
    try simp only [Exit.then]
    refine ret1 (v := .bool true) rfl (by kernel_rfl) ?_
    exact ⟨rfl, (Below.refl _ _)⟩
  · refine W.q (v := .bool false) (hr := (r_gtr (m := ((a1.size : Nat) : Int)) (n := 1048576) rfl (by kernel_rfl) (by kernel_rfl) (decide_eq_false q2))) (h := ?_)
    refine W.endF 47 [(0, .slice x0 n0 p0), (1, .string a1), (4, .bool false), (13, .bool false)] (fun U5 => ?_)
    refine h3 _ _ ?_
    refine wp_cond_false (by kernel_rfl) ?_
    refine wp_skip ?_
    refine h2 _ _ ?_
    refine wp_seq_k (fun K5 h5 => ?_)
    refine W.region_quiet [(0, false)] (by kernel_rfl) ?_
    refine W.as (v := .int .i64 1048576) (h := ?_)
    refine W.endF 47 [(0, .slice x0 n0 p0), (1, .string a1), (4, .bool false), (5, .int .i64 1048576), (13, .bool false)] (fun U6 => ?_)
    refine h5 _ _ ?_
    refine wp_seq_k (fun K6 h6 => ?_)
    refine W.region_plain (row := none) [(0, false), (1, false), (2, true), (3, false)] (by kernel_rfl) ?_
    have s7 := SG.self w none
    refine W.mv (v := .slice x0 n0 p0) (h := ?_)
    refine W.mv (v := .int .i64 1048576) (h := ?_)
    refine W.sc (vs := [.slice x0 n0 p0, .int .i64 1048576]) rfl rfl (by kernel_rfl) (by kernel_rfl) (by kernel_rfl) rfl (szStringS_any x0 n0 p0 a0 1048576 _ (Rd.kept h0 (SG.belowR (Below.refl _ _) s7 (fun kq e => by cases e))) (by omega) (by omega) (by omega) (fun x hx9 => by have := x0s x hx9; omega)) ?_
    rintro e w9 ⟨rfl, b8⟩
    have s10 := SG.of_below s7 b8
    refine ⟨_, rfl, s10, ?_⟩
    refine W.as (v := .int .i64 (szT 1048576 a0)) (h := ?_)
    refine W.endF 47 [(0, .slice x0 n0 p0), (1, .string a1), (4, .bool false), (5, .int .i64 (szT 1048576 a0)), (13, .bool false)] (fun U11 => ?_)
    have c12 := (SG.belowR (Below.refl _ _) s10 (fun kq e => by cases e))
    refine h6 _ _ ?_
    refine wp_seq_k (fun K7 h7 => ?_)
    refine wp_seq_k (fun K8 h8 => ?_)
    refine W.region_quiet [(0, false), (1, false)] (by kernel_rfl) ?_
    refine W.mv (v := .int .i64 (szT 1048576 a0)) (h := ?_)
    by_cases q13 : ((szT 1048576 a0) : Int) < (0 : Int)
    · refine W.q (v := .bool true) (hr := (r_lss (m := (szT 1048576 a0)) (n := 0) rfl (by kernel_rfl) (by kernel_rfl) (decide_eq_true q13))) (h := ?_)
      refine W.endF 47 [(0, .slice x0 n0 p0), (1, .string a1), (4, .bool false), (5, .int .i64 (szT 1048576 a0)), (13, .bool false), (18, .bool true)] (fun U14 => ?_)
      refine h8 _ _ ?_
      refine wp_cond_true (by kernel_rfl) ?_
      refine wp_seq_k (fun K9 h9 => ?_)
      refine W.region_quiet [(0, false)] (by kernel_rfl) ?_
      refine W.as (v := .bool true) (h := ?_)
      refine W.endF 47 [(0, .slice x0 n0 p0), (1, .string a1), (4, .bool true), (5, .int .i64 (szT 1048576 a0)), (13, .bool false), (18, .bool true)] (fun U15 => ?_)
      refine h9 _ _ ?_
      refine wp_ret ?_
      try simp only [Exit.then]
      refine ret1 (v := .bool true) rfl (by kernel_rfl) ?_
      exact ⟨rfl, c12⟩
    · have hge := szT_ge q13
      have hxs : ∀ x ∈ a0, x.size ≤ 1048576 := fun x hx9 => by have := lenSum_mem hx9; omega
      refine W.q (v := .bool false) (hr := (r_lss (m := (szT 1048576 a0)) (n := 0) rfl (by kernel_rfl) (by kernel_rfl) (decide_eq_false q13))) (h := ?_)
      refine W.endF 47 [(0, .slice x0 n0 p0), (1, .string a1), (4, .bool false), (5, .int .i64 (szT 1048576 a0)), (13, .bool false), (18, .bool false)] (fun U16 => ?_)
      refine h8 _ _ ?_
      refine wp_cond_false (by kernel_rfl) ?_
      refine wp_skip ?_
      refine h7 _ _ ?_
      refine wp_seq_k (fun K10 h10 => ?_)
      refine W.region_plain (row := none) [(0, false), (1, true), (2, false), (3, true), (4, false), (5, false), (6, false), (7, false), (8, false)] (by kernel_rfl) ?_
      have s17 := SG.self w9 none
      refine W.mv (v := .slice x0 n0 p0) (h := ?_)
      have z23 := ((SG.belowR c12 s17 (fun kq e => by cases e))).size
      refine W.sc (vs := [.slice x0 n0 p0]) rfl rfl (by kernel_rfl) (by kernel_rfl) (by kernel_rfl) rfl (toStringS_any x0 n0 p0 a0 _ (Rd.kept h0 (SG.belowR c12 s17 (fun kq e => by cases e))) (by omega)) ?_
      rintro e w26 ⟨A18, n19, c20, rfl, ho21, b25⟩
      have s27 := SG.of_below s17 b25
      refine ⟨_, rfl, s27, ?_⟩
      have ho22 := own_base (base' := w.heap.size) ho21 z23
      have hlr24 := rd_strs_len (own_rd ho22)
      refine W.mv (v := .string a1) (h := ?_)
      refine W.sc (vs := [.slice A18 n19 c20, .string a1]) rfl rfl (by kernel_rfl) (by kernel_rfl) (by kernel_rfl) rfl (JoinStrings_spec A18 n19 c20 a0 a1 _ (own_rd ho22) (by omega) hxs (by omega)) ?_
      rintro e w29 ⟨rfl, b28⟩
      have s30 := SG.of_below s27 b28
      refine ⟨_, rfl, s30, ?_⟩
      have ho31 := own_kept ho22 b28
      refine W.mv (v := .tuple #[.string (JoinStrings_v0 a0 a1), .bool (JoinStrings_v1 a0 a1)]) (h := ?_)
      refine W.q (v := .string (JoinStrings_v0 a0 a1)) (hr := (r_extract (vs := #[.string (JoinStrings_v0 a0 a1), .bool (JoinStrings_v1 a0 a1)]) rfl (by kernel_rfl) (by kernel_rfl))) (h := ?_)
      refine W.q (v := .bool (JoinStrings_v1 a0 a1)) (hr := (r_extract (vs := #[.string (JoinStrings_v0 a0 a1), .bool (JoinStrings_v1 a0 a1)]) rfl (by kernel_rfl) (by kernel_rfl))) (h := ?_)
      refine W.as (v := .string (JoinStrings_v0 a0 a1)) (h := ?_)
      refine W.as (v := .bool (JoinStrings_v1 a0 a1)) (h := ?_)
      refine W.endF 47 [(0, .slice x0 n0 p0), (1, .string a1), (4, .bool false), (5, .int .i64 (szT 1048576 a0)), (6, .string (JoinStrings_v0 a0 a1)), (7, .bool (JoinStrings_v1 a0 a1)), (13, .bool false), (18, .bool false)] (fun U32 => ?_)
      have c33 := (SG.belowR c12 s30 (fun kq e => by cases e))
      refine h10 _ _ ?_
      refine wp_seq_k (fun K11 h11 => ?_)
      refine W.region_plain (row := none) [(0, false), (1, true), (2, false)] (by kernel_rfl) ?_
      have s34 := SG.self w29 none
      refine W.mv (v := .slice x0 n0 p0) (h := ?_)
      have z40 := ((SG.belowR c33 s34 (fun kq e => by cases e))).size
      refine W.sc (vs := [.slice x0 n0 p0]) rfl rfl (by kernel_rfl) (by kernel_rfl) (by kernel_rfl) rfl (toStringS_any x0 n0 p0 a0 _ (Rd.kept h0 (SG.belowR c33 s34 (fun kq e => by cases e))) (by omega)) ?_
      rintro e w43 ⟨A35, n36, c37, rfl, ho38, b42⟩
      have s44 := SG.of_below s34 b42
      refine ⟨_, rfl, s44, ?_⟩
      have ho45 := own_kept ho31 b42
      have ho39 := own_base (base' := w.heap.size) ho38 z40
      have hlr41 := rd_strs_len (own_rd ho39)
      have nr46 : NbR (.slice A35 n36 c37) (.slice A18 n19 c20) := fun j e1 e2 => by have h8 := (World.ownsRow.lt ho38 j e1).1; have h9 := (World.ownsRow.lt ho31 j e2).2; omega
      refine W.as (v := .slice A35 n36 c37) (h := ?_)
      refine W.endF 47 [(0, .slice x0 n0 p0), (1, .string a1), (4, .bool false), (5, .int .i64 (szT 1048576 a0)), (6, .string (JoinStrings_v0 a0 a1)), (7, .bool (JoinStrings_v1 a0 a1)), (8, .slice A35 n36 c37), (13, .bool false), (18, .bool false)] (fun U47 => ?_)
      have c48 := (SG.belowR c33 s44 (fun kq e => by cases e))
      refine h11 _ _ ?_
      refine wp_seq_k (fun K12 h12 => ?_)
      refine W.region_plain (row := none) [(0, false), (1, false), (2, true), (3, false), (4, false), (5, false), (6, false), (7, false)] (by kernel_rfl) ?_
      have s49 := SG.self w43 none
      refine W.mv (v := .slice A35 n36 c37) (h := ?_)
      refine W.mv (v := .string a1) (h := ?_)
      refine W.sc (vs := [.slice A35 n36 c37, .string a1]) rfl rfl (by kernel_rfl) (by kernel_rfl) (by kernel_rfl) rfl (JoinStrings_impl A35 n36 c37 a0 a1 _ (own_rd ho39) (own_fm ho39) (by omega) hxs (by omega)) ?_
      rintro e w51 ⟨rfl, b50⟩
      have s52 := SG.of_below s49 b50
      refine ⟨_, rfl, s52, ?_⟩
      have ho53 := own_kept ho45 b50
      have ho54 := own_kept ho39 b50
      refine W.mv (v := .tuple #[.string (JoinStrings_v0 a0 a1), .bool (JoinStrings_v1 a0 a1)]) (h := ?_)
      refine W.q (v := .string (JoinStrings_v0 a0 a1)) (hr := (r_extract (vs := #[.string (JoinStrings_v0 a0 a1), .bool (JoinStrings_v1 a0 a1)]) rfl (by kernel_rfl) (by kernel_rfl))) (h := ?_)
      refine W.q (v := .bool (JoinStrings_v1 a0 a1)) (hr := (r_extract (vs := #[.string (JoinStrings_v0 a0 a1), .bool (JoinStrings_v1 a0 a1)]) rfl (by kernel_rfl) (by kernel_rfl))) (h := ?_)
      refine W.as (v := .string (JoinStrings_v0 a0 a1)) (h := ?_)
      refine W.as (v := .bool (JoinStrings_v1 a0 a1)) (h := ?_)
      refine W.endF 47 [(0, .slice x0 n0 p0), (1, .string a1), (4, .bool false), (5, .int .i64 (szT 1048576 a0)), (6, .string (JoinStrings_v0 a0 a1)), (7, .bool (JoinStrings_v1 a0 a1)), (8, .slice A35 n36 c37), (9, .string (JoinStrings_v0 a0 a1)), (10, .bool (JoinStrings_v1 a0 a1)), (13, .bool false), (18, .bool false)] (fun U55 => ?_)
      have c56 := (SG.belowR c48 s52 (fun kq e => by cases e))
      refine h12 _ _ ?_
      refine wp_seq_k (fun K13 h13 => ?_)
      refine wp_seq_k (fun K14 h14 => ?_)
      refine W.region_quiet [(0, false), (1, false), (2, false), (3, false), (4, false), (5, false), (6, false), (7, false)] (by kernel_rfl) ?_
      refine W.mv (v := .string (JoinStrings_v0 a0 a1)) (h := ?_)
      refine W.mv (v := .string (JoinStrings_v0 a0 a1)) (h := ?_)
      refine W.q (v := .bool false) (hr := (r_neqS (s := (JoinStrings_v0 a0 a1)) (r := (JoinStrings_v0 a0 a1)) rfl (by kernel_rfl) (by kernel_rfl) (by rw [decide_eq_true rfl]; rfl))) (h := ?_)
      refine W.mv (v := .bool false) (h := ?_)
      refine W.mv (v := .bool (JoinStrings_v1 a0 a1)) (h := ?_)
      refine W.mv (v := .bool (JoinStrings_v1 a0 a1)) (h := ?_)
      refine W.q (v := .bool false) (hr := (r_neqB (m := (JoinStrings_v1 a0 a1)) (n := (JoinStrings_v1 a0 a1)) rfl (by kernel_rfl) (by kernel_rfl) (by kernel_rfl) (by rw [show ((JoinStrings_v1 a0 a1) == (JoinStrings_v1 a0 a1)) = true from beq_iff_eq.2 rfl]; rfl))) (h := ?_)
      refine W.q (v := .bool false) (hr := (r_pick (b := false) rfl (by kernel_rfl) (by kernel_rfl))) (h := ?_)
      refine W.endF 47 [(0, .slice x0 n0 p0), (1, .string a1), (4, .bool false), (5, .int .i64 (szT 1048576 a0)), (6, .string (JoinStrings_v0 a0 a1)), (7, .bool (JoinStrings_v1 a0 a1)), (8, .slice A35 n36 c37), (9, .string (JoinStrings_v0 a0 a1)), (10, .bool (JoinStrings_v1 a0 a1)), (13, .bool false), (18, .bool false), (41, .bool false)] (fun U57 => ?_)
      refine h14 _ _ ?_
      refine wp_cond_false (by kernel_rfl) ?_
      refine wp_skip ?_
      refine h13 _ _ ?_
      refine wp_seq_k (fun K15 h15 => ?_)
      refine wp_seq_k (fun K16 h16 => ?_)
      refine W.region_plain (row := none) [(0, false), (1, false), (2, true), (3, true), (4, false)] (by kernel_rfl) ?_
      have s58 := SG.self w51 none
      refine W.mv (v := .slice A35 n36 c37) (h := ?_)
      refine W.mv (v := .slice x0 n0 p0) (h := ?_)
      have z64 := ((SG.belowR c56 s58 (fun kq e => by cases e))).size
      refine W.sc (vs := [.slice x0 n0 p0]) rfl rfl (by kernel_rfl) (by kernel_rfl) (by kernel_rfl) rfl (toStringS_any x0 n0 p0 a0 _ (Rd.kept h0 (SG.belowR c56 s58 (fun kq e => by cases e))) (by omega)) ?_
      rintro e w67 ⟨A59, n60, c61, rfl, ho62, b66⟩
      have s68 := SG.of_below s58 b66
      refine ⟨_, rfl, s68, ?_⟩
      have ho69 := own_kept ho53 b66
      have ho70 := own_kept ho54 b66
      have ho63 := own_base (base' := w.heap.size) ho62 z64
      have hlr65 := rd_strs_len (own_rd ho63)
      have nr71 : NbR (.slice A59 n60 c61) (.slice A18 n19 c20) := fun j e1 e2 => by have h8 := (World.ownsRow.lt ho62 j e1).1; have h9 := (World.ownsRow.lt ho53 j e2).2; omega
      have nr72 : NbR (.slice A59 n60 c61) (.slice A35 n36 c37) := fun j e1 e2 => by have h8 := (World.ownsRow.lt ho62 j e1).1; have h9 := (World.ownsRow.lt ho54 j e2).2; omega
      refine W.sc (vs := [.slice A35 n36 c37, .slice A59 n60 c61]) rfl rfl (by kernel_rfl) (by kernel_rfl) (by kernel_rfl) rfl (eqStringS_two A35 A59 n36 n60 c37 c61 a0 _ (own_rd ho70) (own_rd ho63) (by omega)) ?_
      rintro e w74 ⟨rfl, b73⟩
      have s75 := SG.of_below s68 b73
      refine ⟨_, rfl, s75, ?_⟩
      have ho76 := own_kept ho69 b73
      have ho77 := own_kept ho70 b73
      have ho78 := own_kept ho63 b73
      refine W.q (v := .bool false) (hr := (r_not (b := true) rfl (by kernel_rfl) rfl)) (h := ?_)
      refine W.endF 47 [(0, .slice x0 n0 p0), (1, .string a1), (4, .bool false), (5, .int .i64 (szT 1048576 a0)), (6, .string (JoinStrings_v0 a0 a1)), (7, .bool (JoinStrings_v1 a0 a1)), (8, .slice A35 n36 c37), (9, .string (JoinStrings_v0 a0 a1)), (10, .bool (JoinStrings_v1 a0 a1)), (13, .bool false), (18, .bool false), (41, .bool false), (46, .bool false)] (fun U79 => ?_)
      have c80 := (SG.belowR c56 s75 (fun kq e => by cases e))
      refine h16 _ _ ?_
      refine wp_cond_false (by kernel_rfl) ?_
      refine wp_skip ?_
      refine h15 _ _ ?_
      refine wp_seq_k (fun K17 h17 => ?_)
      refine W.region_quiet [(0, false)] (by kernel_rfl) ?_
      refine W.as (v := .bool true) (h := ?_)
      refine W.endF 47 [(0, .slice x0 n0 p0), (1, .string a1), (4, .bool true), (5, .int .i64 (szT 1048576 a0)), (6, .string (JoinStrings_v0 a0 a1)), (7, .bool (JoinStrings_v1 a0 a1)), (8, .slice A35 n36 c37), (9, .string (JoinStrings_v0 a0 a1)), (10, .bool (JoinStrings_v1 a0 a1)), (13, .bool false), (18, .bool false), (41, .bool false), (46, .bool false)] (fun U81 => ?_)
      refine h17 _ _ ?_
      refine wp_ret ?_
      try simp only [Exit.then]
      refine ret1 (v := .bool true) rfl (by kernel_rfl) ?_
      exact ⟨rfl, c80⟩

end Go.Proofs.Ytgpallafdmjbdaa
