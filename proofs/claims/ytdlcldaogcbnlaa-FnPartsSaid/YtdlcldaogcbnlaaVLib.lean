/- The small functions of the laws over drawn code. -/
import Derived.Test.YtdlcldaogcbnlaaNetC
import Derived.Test.YtdlcldaogcbnlaaSch8
import Derived.Test.YtdlcldaogcbnlaaCurP
import Derived.Test.YtdlcldaogcbnlaaFr
namespace Go.Proofs.Ytdlcldaogcbnlaa
open Go.RowKit
set_option linter.unusedVariables false
set_option linter.unusedSimpArgs false

set_option maxRecDepth 100000 in
set_option maxHeartbeats 8000000 in
theorem vBig_any (A : Option Addr) (n c : Nat) (zs : List Int) (w : World) (hcode : Rd w 1 A n (bytesV zs)) (hz : ∀ z ∈ zs, 0 ≤ z ∧ z < 256) (hn : n ≤ 9223372036854775807) :
    Calls Try.prog 15 #[.slice A n c] w fun e w' => e = .returned (.bool (decide (65536 < n))) ∧ Below w.heap.size w w' := by
  have hl := rd_bytes_len hcode
  go_enter Try.func15, Try.ntmps15
  refine wp_seq_k (fun K1 h1 => ?_)
  refine W.region_quiet [(0, false)] (by kernel_rfl) ?_
  refine W.as (v := .bool false) (h := ?_)
  refine W.endF 6 [(0, .slice A n c), (2, .bool false)] (fun U1 => ?_)
  refine h1 _ _ ?_
  refine wp_seq_k (fun K2 h2 => ?_)
  refine W.region_quiet [(0, false), (1, false), (2, false), (3, false)] (by kernel_rfl) ?_
  refine F.mv (v := .slice A n c) (h := ?_)
  refine F.q (v := .int .i64 ((n : Nat) : Int)) (hr := (r_len (A := A) (n := n) (c := c) rfl (ev_any (by kernel_rfl)) (by kernel_rfl))) (h := ?_)
  by_cases q2 : (((n : Nat) : Int) : Int) > (65536 : Int)
  · refine F.q (v := .bool true) (hr := (r_gtr (m := ((n : Nat) : Int)) (n := 65536) rfl (ev_any (by kernel_rfl)) (ev_any (by kernel_rfl)) (decide_eq_true q2))) (h := ?_)
    refine F.as (v := .bool true) (h := ?_)
    refine F.endF [(0, .slice A n c), (2, .bool true)] (fun U3 => ?_)
    refine h2 _ _ ?_
    refine wp_ret ?_
    try simp only [Exit.then]
    refine ret1 (v := .bool true) rfl (by kernel_rfl) ?_
    exact ⟨by rw [decide_eq_true (by omega)], (Below.refl _ _)⟩
  · refine F.q (v := .bool false) (hr := (r_gtr (m := ((n : Nat) : Int)) (n := 65536) rfl (ev_any (by kernel_rfl)) (ev_any (by kernel_rfl)) (decide_eq_false q2))) (h := ?_)
    refine F.as (v := .bool false) (h := ?_)
    refine F.endF [(0, .slice A n c), (2, .bool false)] (fun U4 => ?_)
    refine h2 _ _ ?_
    refine wp_ret ?_
    try simp only [Exit.then]
    refine ret1 (v := .bool false) rfl (by kernel_rfl) ?_
    exact ⟨by rw [decide_eq_false (by omega)], (Below.refl _ _)⟩

set_option maxRecDepth 100000 in
set_option maxHeartbeats 8000000 in
theorem vInts_same (A B : Option Addr) (n c d : Nat) (zs : List Int) (w : World) (ha : Rd w 1 A n (intsV zs)) (hb : Rd w 1 B n (intsV zs)) (hn : n ≤ 9223372036854775807) :
    Calls Try.prog 19 #[.slice A n c, .slice B n d] w fun e w' => e = .returned (.bool true) ∧ Below w.heap.size w w' := by
  have hl := rd_ints_len ha
  go_enter Try.func19, Try.ntmps19
  refine wp_seq_k (fun K1 h1 => ?_)
  refine W.region_quiet [(0, false)] (by kernel_rfl) ?_
  refine W.as (v := .bool false) (h := ?_)
  refine W.endF 26 [(0, .slice A n c), (1, .slice B n d), (4, .bool false)] (fun U1 => ?_)
  refine h1 _ _ ?_
  refine wp_seq_k (fun K2 h2 => ?_)
  refine wp_seq_k (fun K3 h3 => ?_)
  refine W.region_quiet [(0, false), (1, false), (2, false), (3, false), (4, false)] (by kernel_rfl) ?_
  refine F.mv (v := .slice A n c) (h := ?_)
  refine F.q (v := .int .i64 ((n : Nat) : Int)) (hr := (r_len (A := A) (n := n) (c := c) rfl (ev_any (by kernel_rfl)) (by kernel_rfl))) (h := ?_)
  refine F.mv (v := .slice B n d) (h := ?_)
  refine F.q (v := .int .i64 ((n : Nat) : Int)) (hr := (r_len (A := B) (n := n) (c := d) rfl (ev_any (by kernel_rfl)) (by kernel_rfl))) (h := ?_)
  refine F.q (v := .bool false) (hr := (r_neq (m := ((n : Nat) : Int)) (n := ((n : Nat) : Int)) rfl (ev_any (by kernel_rfl)) (ev_any (by kernel_rfl)) (decide_eq_false (by omega)))) (h := ?_)
  refine F.endF [(0, .slice A n c), (1, .slice B n d), (4, .bool false), (10, .bool false)] (fun U2 => ?_)
  refine h3 _ _ ?_
  refine wp_cond_false (by kernel_rfl) ?_
  refine wp_skip ?_
  refine h2 _ _ ?_
  refine wp_seq_k (fun K4 h4 => ?_)
  refine wp_seq_k (fun K5 h5 => ?_)
  refine W.region_quiet [(0, false)] (by kernel_rfl) ?_
  refine F.as (v := .int .i64 0) (h := ?_)
  refine F.endF [(0, .slice A n c), (1, .slice B n d), (4, .bool false), (5, .int .i64 0), (10, .bool false)] (fun U3 => ?_)
  refine h5 _ _ ?_
  refine wp_block ?_
  refine loopK (fun am0 aa0 wl0 => ∃ (i : Nat) (U0 : Nat → Value), aa0 = ⟨(fr U0 [(0, .slice A n c), (1, .slice B n d), (4, .bool false), (5, .int .i64 ((i : Nat) : Int)), (10, .bool false)] 26 0).toArray, []⟩ ∧ (am0 = n - i) ∧ (i ≤ n) ∧ (Below w.heap.size w wl0)) (n - 0) ?_ ?_
  · exact ⟨0, (fun iU9 => lk [(0, .slice A n c), (1, .slice B n d), (4, .bool false), (5, .int .i64 0), (10, .bool false)] iU9 (U3 iU9)), (by kernel_rfl), rfl, (Nat.zero_le _), (Below.refl _ _)⟩
  rintro am0 aa0 wl0 K6 h6 ⟨i, U0, rfl, rfl, hi, c4⟩
  refine wp_seq_k (fun K7 h7 => ?_)
  refine wp_seq_k (fun K8 h8 => ?_)
  refine W.region_quiet [(0, false), (1, false), (2, false), (3, false)] (by kernel_rfl) ?_
  refine F.mv (v := .int .i64 ((i : Nat) : Int)) (h := ?_)
  refine F.mv (v := .slice A n c) (h := ?_)
  refine F.q (v := .int .i64 ((n : Nat) : Int)) (hr := (r_len (A := A) (n := n) (c := c) rfl (ev_any (by kernel_rfl)) (by kernel_rfl))) (h := ?_)
  by_cases q5 : (((i : Nat) : Int) : Int) < (((n : Nat) : Int) : Int)
  · refine F.q (v := .bool true) (hr := (r_lss (m := ((i : Nat) : Int)) (n := ((n : Nat) : Int)) rfl (ev_any (by kernel_rfl)) (ev_any (by kernel_rfl)) (decide_eq_true q5))) (h := ?_)
    refine F.endF [(0, .slice A n c), (1, .slice B n d), (4, .bool false), (5, .int .i64 ((i : Nat) : Int)), (10, .bool false), (14, .bool true)] (fun U6 => ?_)
    refine h8 _ _ ?_
    refine wp_cond_true (by kernel_rfl) ?_
    refine wp_skip ?_
    refine h7 _ _ ?_
    refine wp_seq_k (fun K9 h9 => ?_)
    refine wp_block ?_
    refine wp_seq_k (fun K10 h10 => ?_)
    refine W.region_sch (row := none) (Sch.of [(0, false), (1, false), (2, false), (3, false), (4, false), (5, false), (6, false), (7, false), (8, false)]) (by kernel_rfl) (by kernel_rfl) (fun _ d _ _ _ h => by cases d <;> exact h) (by kernel_rfl) (fun w7 e8 s9 => ?_)
    refine F.mv (v := .slice A n c) (h := ?_)
    refine F.mv (v := .int .i64 ((i : Nat) : Int)) (h := ?_)
    obtain ⟨x10, hx11⟩ := get_of (zs := zs) (k := i) (by have := hl; omega)
    obtain ⟨b12, o13, hA14, hb15, hc16⟩ := Rd.elInt ha hx11
    refine F.q (v := .pointer (some ⟨b12, o13 + i, none⟩)) (hr := (r_idx1 (n := n) (c := c) (k := i) rfl (ev_any (by kernel_rfl)) hA14 (by kernel_rfl) (by kernel_rfl) (by have := hl; omega))) (h := ?_)
    refine F.ld (v := .int .i64 x10) (hc := (sgS (later c4 hc16) (by simp))) (h := ?_)
    refine F.mv (v := .slice B n d) (h := ?_)
    refine F.mv (v := .int .i64 ((i : Nat) : Int)) (h := ?_)
    obtain ⟨b17, o18, hA19, hb20, hc21⟩ := Rd.elInt hb hx11
    refine F.q (v := .pointer (some ⟨b17, o18 + i, none⟩)) (hr := (r_idx1 (n := n) (c := d) (k := i) rfl (ev_any (by kernel_rfl)) hA19 (by kernel_rfl) (by kernel_rfl) (by have := hl; omega))) (h := ?_)
    refine F.ld (v := .int .i64 x10) (hc := (sgS (later c4 hc21) (by simp))) (h := ?_)
    refine F.q (v := .bool false) (hr := (r_neq (m := x10) (n := x10) rfl (ev_any (by kernel_rfl)) (ev_any (by kernel_rfl)) (decide_eq_false (by omega)))) (h := ?_)
    refine F.endF [(0, .slice A n c), (1, .slice B n d), (4, .bool false), (5, .int .i64 ((i : Nat) : Int)), (10, .bool false), (14, .bool true), (25, .bool false)] (fun U22 => ?_)
    have c23 := (SG.belowR c4 s9 (fun kq e => by cases e))
    refine h10 _ _ ?_
    refine wp_cond_false (by kernel_rfl) ?_
    refine wp_skip ?_
    refine h9 _ _ ?_
    refine W.region_quiet [(0, false), (1, false), (2, false)] (by kernel_rfl) ?_
    refine F.mv (v := .int .i64 ((i : Nat) : Int)) (h := ?_)
    refine F.q (v := .int .i64 ((i + 1 : Nat) : Int)) (hr := (r_add (m := ((i : Nat) : Int)) (n := 1) (z := ((i + 1 : Nat) : Int)) rfl (ev_any (by kernel_rfl)) (ev_any (by kernel_rfl)) (by omega) (by omega))) (h := ?_)
    refine F.as (v := .int .i64 ((i + 1 : Nat) : Int)) (h := ?_)
    refine F.endF [(0, .slice A n c), (1, .slice B n d), (4, .bool false), (5, .int .i64 ((i + 1 : Nat) : Int)), (10, .bool false), (14, .bool true), (25, .bool false)] (fun U24 => ?_)
    exact h6 _ _ _ (by omega : (n - (i + 1)) < _) ⟨i + 1, (fun iU9 => lk [(0, .slice A n c), (1, .slice B n d), (4, .bool false), (5, .int .i64 ((i + 1 : Nat) : Int)), (10, .bool false), (14, .bool true), (25, .bool false)] iU9 (U24 iU9)), (by kernel_rfl), rfl, (by omega), c23⟩
  · refine F.q (v := .bool false) (hr := (r_lss (m := ((i : Nat) : Int)) (n := ((n : Nat) : Int)) rfl (ev_any (by kernel_rfl)) (ev_any (by kernel_rfl)) (decide_eq_false q5))) (h := ?_)
    refine F.endF [(0, .slice A n c), (1, .slice B n d), (4, .bool false), (5, .int .i64 ((i : Nat) : Int)), (10, .bool false), (14, .bool false)] (fun U25 => ?_)
    refine h8 _ _ ?_
    refine wp_cond_false (by kernel_rfl) ?_
    refine wp_exit ?_
    refine h4 _ _ ?_
    refine wp_seq_k (fun K11 h11 => ?_)
    refine W.region_quiet [(0, false)] (by kernel_rfl) ?_
    refine F.as (v := .bool true) (h := ?_)
    refine F.endF [(0, .slice A n c), (1, .slice B n d), (4, .bool true), (5, .int .i64 ((i : Nat) : Int)), (10, .bool false), (14, .bool false)] (fun U26 => ?_)
    refine h11 _ _ ?_
    refine wp_ret ?_
    try simp only [Exit.then]
    refine ret1 (v := .bool true) rfl (by kernel_rfl) ?_
    exact ⟨rfl, c4⟩

set_option maxRecDepth 100000 in
set_option maxHeartbeats 8000000 in
theorem vHas_any (A : Option Addr) (n c : Nat) (zs : List Int) (x : Int) (w : World) (ha : Rd w 1 A n (intsV zs)) (hn : n ≤ 9223372036854775807) :
    Calls Try.prog 31 #[.slice A n c, .int .i64 x] w fun e w' => e = .returned (.bool (zs.contains x)) ∧ Below w.heap.size w w' := by
  have hl := rd_ints_len ha
  go_enter Try.func31, Try.ntmps31
  refine wp_seq_k (fun K1 h1 => ?_)
  refine W.region_quiet [(0, false)] (by kernel_rfl) ?_
  refine W.as (v := .bool false) (h := ?_)
  refine W.endF 18 [(0, .slice A n c), (1, .int .i64 x), (4, .bool false)] (fun U1 => ?_)
  refine h1 _ _ ?_
  refine wp_seq_k (fun K2 h2 => ?_)
  refine wp_seq_k (fun K3 h3 => ?_)
  refine W.region_quiet [(0, false)] (by kernel_rfl) ?_
  refine F.as (v := .int .i64 0) (h := ?_)
  refine F.endF [(0, .slice A n c), (1, .int .i64 x), (4, .bool false), (5, .int .i64 0)] (fun U2 => ?_)
  refine h3 _ _ ?_
  refine wp_block ?_
  refine loopK (fun am0 aa0 wl0 => ∃ (i : Nat) (U0 : Nat → Value), aa0 = ⟨(fr U0 [(0, .slice A n c), (1, .int .i64 x), (4, .bool false), (5, .int .i64 ((i : Nat) : Int))] 18 0).toArray, []⟩ ∧ (am0 = n - i) ∧ (i ≤ n) ∧ (∀ j z, j < i → zs[j]? = some z → z ≠ x) ∧ (Below w.heap.size w wl0)) (n - 0) ?_ ?_
  · exact ⟨0, (fun iU9 => lk [(0, .slice A n c), (1, .int .i64 x), (4, .bool false), (5, .int .i64 0)] iU9 (U2 iU9)), (by kernel_rfl), rfl, (Nat.zero_le _), upto_zero, (Below.refl _ _)⟩
  rintro am0 aa0 wl0 K4 h4 ⟨i, U0, rfl, rfl, hi, hno, c3⟩
  refine wp_seq_k (fun K5 h5 => ?_)
  refine wp_seq_k (fun K6 h6 => ?_)
  refine W.region_quiet [(0, false), (1, false), (2, false), (3, false)] (by kernel_rfl) ?_
  refine F.mv (v := .int .i64 ((i : Nat) : Int)) (h := ?_)
  refine F.mv (v := .slice A n c) (h := ?_)
  refine F.q (v := .int .i64 ((n : Nat) : Int)) (hr := (r_len (A := A) (n := n) (c := c) rfl (ev_any (by kernel_rfl)) (by kernel_rfl))) (h := ?_)
  by_cases q4 : (((i : Nat) : Int) : Int) < (((n : Nat) : Int) : Int)
  · refine F.q (v := .bool true) (hr := (r_lss (m := ((i : Nat) : Int)) (n := ((n : Nat) : Int)) rfl (ev_any (by kernel_rfl)) (ev_any (by kernel_rfl)) (decide_eq_true q4))) (h := ?_)
    refine F.endF [(0, .slice A n c), (1, .int .i64 x), (4, .bool false), (5, .int .i64 ((i : Nat) : Int)), (9, .bool true)] (fun U5 => ?_)
    refine h6 _ _ ?_
    refine wp_cond_true (by kernel_rfl) ?_
    refine wp_skip ?_
    refine h5 _ _ ?_
    refine wp_seq_k (fun K7 h7 => ?_)
    refine wp_block ?_
    refine wp_seq_k (fun K8 h8 => ?_)
    refine W.region_quiet [(0, false), (1, false), (2, false), (3, false), (4, false), (5, false)] (by kernel_rfl) ?_
    refine F.mv (v := .slice A n c) (h := ?_)
    refine F.mv (v := .int .i64 ((i : Nat) : Int)) (h := ?_)
    obtain ⟨x6, hx7⟩ := get_of (zs := zs) (k := i) (by have := hl; omega)
    obtain ⟨b8, o9, hA10, hb11, hc12⟩ := Rd.elInt ha hx7
    refine F.q (v := .pointer (some ⟨b8, o9 + i, none⟩)) (hr := (r_idx1 (n := n) (c := c) (k := i) rfl (ev_any (by kernel_rfl)) hA10 (by kernel_rfl) (by kernel_rfl) (by have := hl; omega))) (h := ?_)
    refine F.ld (v := .int .i64 x6) (hc := (eqS (later c3 hc12))) (h := ?_)
    refine F.mv (v := .int .i64 x) (h := ?_)
    by_cases q13 : (x6 : Int) = (x : Int)
    · refine F.q (v := .bool true) (hr := (r_eql (m := x6) (n := x) rfl (ev_any (by kernel_rfl)) (ev_any (by kernel_rfl)) (decide_eq_true q13))) (h := ?_)
      refine F.endF [(0, .slice A n c), (1, .int .i64 x), (4, .bool false), (5, .int .i64 ((i : Nat) : Int)), (9, .bool true), (17, .bool true)] (fun U14 => ?_)
      refine h8 _ _ ?_
      refine wp_cond_true (by kernel_rfl) ?_
      refine wp_seq_k (fun K9 h9 => ?_)
      refine W.region_quiet [(0, false)] (by kernel_rfl) ?_
      refine F.as (v := .bool true) (h := ?_)
      refine F.endF [(0, .slice A n c), (1, .int .i64 x), (4, .bool true), (5, .int .i64 ((i : Nat) : Int)), (9, .bool true), (17, .bool true)] (fun U15 => ?_)
      refine h9 _ _ ?_
      refine wp_ret ?_
      try simp only [Exit.then, Exit.inBlock]
      refine ret1 (v := .bool true) rfl (by kernel_rfl) ?_
      exact ⟨by rw [← has_yes hx7 q13], c3⟩
    · refine F.q (v := .bool false) (hr := (r_eql (m := x6) (n := x) rfl (ev_any (by kernel_rfl)) (ev_any (by kernel_rfl)) (decide_eq_false q13))) (h := ?_)
      refine F.endF [(0, .slice A n c), (1, .int .i64 x), (4, .bool false), (5, .int .i64 ((i : Nat) : Int)), (9, .bool true), (17, .bool false)] (fun U16 => ?_)
      refine h8 _ _ ?_
      refine wp_cond_false (by kernel_rfl) ?_
      refine wp_skip ?_
      refine h7 _ _ ?_
      refine W.region_quiet [(0, false), (1, false), (2, false)] (by kernel_rfl) ?_
      refine F.mv (v := .int .i64 ((i : Nat) : Int)) (h := ?_)
      refine F.q (v := .int .i64 ((i + 1 : Nat) : Int)) (hr := (r_add (m := ((i : Nat) : Int)) (n := 1) (z := ((i + 1 : Nat) : Int)) rfl (ev_any (by kernel_rfl)) (ev_any (by kernel_rfl)) (by omega) (by omega))) (h := ?_)
      refine F.as (v := .int .i64 ((i + 1 : Nat) : Int)) (h := ?_)
      refine F.endF [(0, .slice A n c), (1, .int .i64 x), (4, .bool false), (5, .int .i64 ((i + 1 : Nat) : Int)), (9, .bool true), (17, .bool false)] (fun U17 => ?_)
      exact h4 _ _ _ (by omega : (n - (i + 1)) < _) ⟨i + 1, (fun iU9 => lk [(0, .slice A n c), (1, .int .i64 x), (4, .bool false), (5, .int .i64 ((i + 1 : Nat) : Int)), (9, .bool true), (17, .bool false)] iU9 (U17 iU9)), (by kernel_rfl), rfl, (by omega), (upto_succ hno hx7 q13), c3⟩
  · refine F.q (v := .bool false) (hr := (r_lss (m := ((i : Nat) : Int)) (n := ((n : Nat) : Int)) rfl (ev_any (by kernel_rfl)) (ev_any (by kernel_rfl)) (decide_eq_false q4))) (h := ?_)
    refine F.endF [(0, .slice A n c), (1, .int .i64 x), (4, .bool false), (5, .int .i64 ((i : Nat) : Int)), (9, .bool false)] (fun U18 => ?_)
    refine h6 _ _ ?_
    refine wp_cond_false (by kernel_rfl) ?_
    refine wp_exit ?_
    refine h2 _ _ ?_
    refine wp_seq_k (fun K10 h10 => ?_)
    refine W.region_quiet [(0, false)] (by kernel_rfl) ?_
    refine F.as (v := .bool false) (h := ?_)
    refine F.endF [(0, .slice A n c), (1, .int .i64 x), (4, .bool false), (5, .int .i64 ((i : Nat) : Int)), (9, .bool false)] (fun U19 => ?_)
    refine h10 _ _ ?_
    refine wp_ret ?_
    try simp only [Exit.then]
    refine ret1 (v := .bool false) rfl (by kernel_rfl) ?_
    exact ⟨by rw [← has_no hl hno (by omega)], c3⟩

end Go.Proofs.Ytdlcldaogcbnlaa
