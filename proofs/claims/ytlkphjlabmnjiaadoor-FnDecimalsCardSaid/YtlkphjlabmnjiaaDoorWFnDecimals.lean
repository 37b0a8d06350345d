/- The walk of the law FnDecimals. -/
import Derived.Test.YtlkphjlabmnjiaaDoorDraw3
import Derived.Test.YtlkphjlabmnjiaaDoorDec
import Derived.Test.YtlkphjlabmnjiaaDoorUnitC
import Derived.Test.YtlkphjlabmnjiaaDoorRows
import Derived.Test.YtlkphjlabmnjiaaDoorLaid
import Derived.Test.YtlkphjlabmnjiaaDoorWConvert
import Derived.Test.YtlkphjlabmnjiaaDoorJoinK
namespace Go.Proofs.YtlkphjlabmnjiaaDoor
open Go.RowKit
set_option linter.unusedVariables false
set_option linter.unusedSimpArgs false

set_option maxRecDepth 100000 in
set_option maxHeartbeats 1000000 in
theorem rBig_any (A : Option Addr) (n c : Nat) (zs : List Int) (w : World) (hcode : Rd w 1 A n (bytesV zs)) (hz : ∀ z ∈ zs, 0 ≤ z ∧ z < 256) (hn : n ≤ 9223372036854775807) :
    Calls Tryd.prog 28 #[.slice A n c] w fun e w' => e = .returned (.bool (decide (65536 < n))) ∧ Below w.heap.size w w' := by
  have hl := rd_bytes_len hcode
  go_enter Tryd.func28, Tryd.ntmps28
  refine wp_seq_k (fun K1 h1 => ?_)
  refine W.region_quiet [(0, false)] (by kernel_rfl) ?_
  refine W.as (v := .bool false) (h := ?_)
  refine W.endF 6 [(0, .slice A n c), (2, .bool false)] (fun U1 => ?_)
  refine h1 _ _ ?_
  refine wp_seq_k (fun K2 h2 => ?_)
  refine W.region_quiet [(0, false), (1, false), (2, false), (3, false)] (by kernel_rfl) ?_
  refine W.mv (v := .slice A n c) (h := ?_)
  refine W.q (v := .int .i64 ((n : Nat) : Int)) (hr := (r_len (A := A) (n := n) (c := c) rfl (by kernel_rfl) (by kernel_rfl))) (h := ?_)
  by_cases q2 : (((n : Nat) : Int) : Int) > (65536 : Int)
  · refine W.q (v := .bool true) (hr := (r_gtr (m := ((n : Nat) : Int)) (n := 65536) rfl (by kernel_rfl) (by kernel_rfl) (decide_eq_true q2))) (h := ?_)
    refine W.as (v := .bool true) (h := ?_)
    refine W.endF 6 [(0, .slice A n c), (2, .bool true)] (fun U3 => ?_)
    refine h2 _ _ ?_
    refine wp_ret ?_
    try simp only [Exit.then]
    refine ret1 (v := .bool true) rfl (by kernel_rfl) ?_
    exact ⟨by rw [decide_eq_true (by omega)], (Below.refl _ _)⟩
  · refine W.q (v := .bool false) (hr := (r_gtr (m := ((n : Nat) : Int)) (n := 65536) rfl (by kernel_rfl) (by kernel_rfl) (decide_eq_false q2))) (h := ?_)
    refine W.as (v := .bool false) (h := ?_)
    refine W.endF 6 [(0, .slice A n c), (2, .bool false)] (fun U4 => ?_)
    refine h2 _ _ ?_
    refine wp_ret ?_
    try simp only [Exit.then]
    refine ret1 (v := .bool false) rfl (by kernel_rfl) ?_
    exact ⟨by rw [decide_eq_false (by omega)], (Below.refl _ _)⟩

set_option maxRecDepth 100000 in
set_option maxHeartbeats 1000000 in
theorem wi_FnDecimals (A : Option Addr) (n c : Nat) (zs : List Int) (w : World) (hcode : Rd w 1 A n (bytesV zs)) (hz : ∀ z ∈ zs, 0 ≤ z ∧ z < 256) (hn : n ≤ 9223372036854775807) (htab : Lib.TabIs Tryd.prog w "internal/strconv.uint64pow10" .u64 Lib.pow10Tab) (hfl : Flows w) :
    Calls Tryd.prog 10 #[.slice A n c] w fun e w' => e = .returned (.bool true) ∧ Below w.heap.size w w' := by
  have hl := rd_bytes_len hcode
  go_enter Tryd.func10, Tryd.ntmps10
  refine wp_seq_k (fun K1 h1 => ?_)
  refine W.region_quiet [(0, false)] (by kernel_rfl) ?_
  refine W.as (v := .bool false) (h := ?_)
  refine W.endF 174 [(0, .slice A n c), (2, .bool false)] (fun U1 => ?_)
  refine h1 _ _ ?_
  refine wp_seq_k (fun K2 h2 => ?_)
  refine wp_seq_k (fun K3 h3 => ?_)
  refine W.region_plain (row := none) [(0, false), (1, true)] (by kernel_rfl) ?_
  have s2 := SG.self w none
  refine W.mv (v := .slice A n c) (h := ?_)
  refine W.sc (vs := [.slice A n c]) rfl rfl (by kernel_rfl) (by kernel_rfl) (by kernel_rfl) rfl (rBig_any A n c zs _ (Rd.kept hcode (SG.belowR (Below.refl _ _) s2 (fun kq e => by cases e))) hz hn) ?_
  rintro e w4 ⟨rfl, b3⟩
  have s5 := SG.of_below s2 b3
  refine ⟨_, rfl, s5, ?_⟩
  rcases Bool.eq_false_or_eq_true (decide (65536 < n)) with q6 | q6
  · rw [q6]
    refine W.endF 174 [(0, .slice A n c), (2, .bool false), (29, .bool true)] (fun U7 => ?_)
    have c8 := (SG.belowR (Below.refl _ _) s5 (fun kq e => by cases e))
    refine h3 _ _ ?_
    refine wp_cond_true (by kernel_rfl) ?_
    refine wp_seq_k (fun K4 h4 => ?_)
    refine W.region_quiet [(0, false)] (by kernel_rfl) ?_
    refine W.as (v := .bool true) (h := ?_)
    refine W.endF 174 [(0, .slice A n c), (2, .bool true), (29, .bool true)] (fun U9 => ?_)
    refine h4 _ _ ?_
    refine wp_ret ?_
    try simp only [Exit.then]
    refine ret1 (v := .bool true) rfl (by kernel_rfl) ?_
    exact ⟨rfl, c8⟩
  · rw [q6]
    refine W.endF 174 [(0, .slice A n c), (2, .bool false), (29, .bool false)] (fun U10 => ?_)
    have c11 := (SG.belowR (Below.refl _ _) s5 (fun kq e => by cases e))
    refine h3 _ _ ?_
    refine wp_cond_false (by kernel_rfl) ?_
    refine wp_skip ?_
    refine h2 _ _ ?_
    refine wp_seq_k (fun K5 h5 => ?_)
    refine W.region_plain (row := none) [(0, false), (1, true), (2, false), (3, false), (4, false), (5, false), (6, false), (7, false), (8, false)] (by kernel_rfl) ?_
    have s12 := SG.self w4 none
    refine W.mv (v := .slice A n c) (h := ?_)
    refine W.sc (vs := [.slice A n c]) rfl rfl (by kernel_rfl) (by kernel_rfl) (by kernel_rfl) rfl (DrawDecimalText_any A n c zs _ (Rd.kept hcode (SG.belowR c11 s12 (fun kq e => by cases e))) hz (by have h9 := of_decide_eq_false q6; omega)) ?_
    rintro e w14 ⟨x, y, z, rfl, hz5, b13⟩
    have s15 := SG.of_below s12 b13
    refine ⟨_, rfl, s15, ?_⟩
    refine W.mv (v := .tuple #[.int .i64 x, .int .i64 y, .int .i64 z]) (h := ?_)
    refine W.q (v := .int .i64 x) (hr := (r_extract (vs := #[.int .i64 x, .int .i64 y, .int .i64 z]) rfl (by kernel_rfl) (by kernel_rfl))) (h := ?_)
    refine W.q (v := .int .i64 y) (hr := (r_extract (vs := #[.int .i64 x, .int .i64 y, .int .i64 z]) rfl (by kernel_rfl) (by kernel_rfl))) (h := ?_)
    refine W.q (v := .int .i64 z) (hr := (r_extract (vs := #[.int .i64 x, .int .i64 y, .int .i64 z]) rfl (by kernel_rfl) (by kernel_rfl))) (h := ?_)
    refine W.as (v := .int .i64 x) (h := ?_)
    refine W.as (v := .int .i64 y) (h := ?_)
    refine W.as (v := .int .i64 z) (h := ?_)
    refine W.endF 174 [(0, .slice A n c), (2, .bool false), (3, .int .i64 x), (4, .int .i64 y), (5, .int .i64 z), (29, .bool false)] (fun U16 => ?_)
    have c17 := (SG.belowR c11 s15 (fun kq e => by cases e))
    refine h5 _ _ ?_
    refine wp_seq_k (fun K6 h6 => ?_)
    refine W.region_plain (row := none) [(0, false), (1, false), (2, false), (3, true), (4, false), (5, false), (6, false), (7, false), (8, false)] (by kernel_rfl) ?_
    have s18 := SG.self w14 none
    refine W.mv (v := .int .i64 x) (h := ?_)
    refine W.mv (v := .int .i64 y) (h := ?_)
    refine W.mv (v := .int .i64 z) (h := ?_)
    have hds := dec_size (a := x) (b := y) (c := z)
    refine W.sc (vs := [.int .i64 x, .int .i64 y, .int .i64 z]) rfl rfl (by kernel_rfl) (by kernel_rfl) (by kernel_rfl) rfl (DecimalText_impl x y z _ (tab_kept htab (SG.belowR c17 s18 (fun kq e => by cases e)))) ?_
    rintro e w20 ⟨rfl, b19⟩
    have s21 := SG.of_below s18 b19
    refine ⟨_, rfl, s21, ?_⟩
    refine W.mv (v := .tuple #[.string (DecimalText_v0 x y z), .bool (DecimalText_v1 x y z)]) (h := ?_)
    refine W.q (v := .string (DecimalText_v0 x y z)) (hr := (r_extract (vs := #[.string (DecimalText_v0 x y z), .bool (DecimalText_v1 x y z)]) rfl (by kernel_rfl) (by kernel_rfl))) (h := ?_)
    refine W.q (v := .bool (DecimalText_v1 x y z)) (hr := (r_extract (vs := #[.string (DecimalText_v0 x y z), .bool (DecimalText_v1 x y z)]) rfl (by kernel_rfl) (by kernel_rfl))) (h := ?_)
    refine W.as (v := .string (DecimalText_v0 x y z)) (h := ?_)
    refine W.as (v := .bool (DecimalText_v1 x y z)) (h := ?_)
    refine W.endF 174 [(0, .slice A n c), (2, .bool false), (3, .int .i64 x), (4, .int .i64 y), (5, .int .i64 z), (6, .string (DecimalText_v0 x y z)), (7, .bool (DecimalText_v1 x y z)), (29, .bool false)] (fun U22 => ?_)
    have c23 := (SG.belowR c17 s21 (fun kq e => by cases e))
    refine h6 _ _ ?_
    refine wp_seq_k (fun K7 h7 => ?_)
    refine wp_seq_k (fun K8 h8 => ?_)
    refine W.region_plain (row := none) [(0, false), (1, false), (2, false), (3, true), (4, false), (5, false), (6, false), (7, false), (8, false)] (by kernel_rfl) ?_
    have s24 := SG.self w20 none
    refine W.mv (v := .int .i64 x) (h := ?_)
    refine W.mv (v := .int .i64 y) (h := ?_)
    refine W.mv (v := .int .i64 z) (h := ?_)
    have hds := dec_size (a := x) (b := y) (c := z)
    refine W.sc (vs := [.int .i64 x, .int .i64 y, .int .i64 z]) rfl rfl (by kernel_rfl) (by kernel_rfl) (by kernel_rfl) rfl (DecimalText_spec x y z _) ?_
    rintro e w26 ⟨rfl, b25⟩
    have s27 := SG.of_below s24 b25
    refine ⟨_, rfl, s27, ?_⟩
    refine W.mv (v := .tuple #[.string (DecimalText_v0 x y z), .bool (DecimalText_v1 x y z)]) (h := ?_)
    refine W.q (v := .string (DecimalText_v0 x y z)) (hr := (r_extract (vs := #[.string (DecimalText_v0 x y z), .bool (DecimalText_v1 x y z)]) rfl (by kernel_rfl) (by kernel_rfl))) (h := ?_)
    refine W.q (v := .bool (DecimalText_v1 x y z)) (hr := (r_extract (vs := #[.string (DecimalText_v0 x y z), .bool (DecimalText_v1 x y z)]) rfl (by kernel_rfl) (by kernel_rfl))) (h := ?_)
    refine W.as (v := .string (DecimalText_v0 x y z)) (h := ?_)
    refine W.as (v := .bool (DecimalText_v1 x y z)) (h := ?_)
    refine W.endF 174 [(0, .slice A n c), (2, .bool false), (3, .int .i64 x), (4, .int .i64 y), (5, .int .i64 z), (6, .string (DecimalText_v0 x y z)), (7, .bool (DecimalText_v1 x y z)), (8, .string (DecimalText_v0 x y z)), (9, .bool (DecimalText_v1 x y z)), (29, .bool false)] (fun U28 => ?_)
    have c29 := (SG.belowR c23 s27 (fun kq e => by cases e))
    refine h8 _ _ ?_
    refine wp_seq_k (fun K9 h9 => ?_)
    refine W.region_quiet [(0, false), (1, false), (2, false), (3, false), (4, false), (5, false), (6, false), (7, false)] (by kernel_rfl) ?_
    refine W.mv (v := .string (DecimalText_v0 x y z)) (h := ?_)
    refine W.mv (v := .string (DecimalText_v0 x y z)) (h := ?_)
    refine W.q (v := .bool false) (hr := (r_neqS (s := (DecimalText_v0 x y z)) (r := (DecimalText_v0 x y z)) rfl (by kernel_rfl) (by kernel_rfl) (by rw [decide_eq_true rfl]; rfl))) (h := ?_)
    refine W.mv (v := .bool false) (h := ?_)
    refine W.mv (v := .bool (DecimalText_v1 x y z)) (h := ?_)
    refine W.mv (v := .bool (DecimalText_v1 x y z)) (h := ?_)
    refine W.q (v := .bool false) (hr := (r_neqB (m := (DecimalText_v1 x y z)) (n := (DecimalText_v1 x y z)) rfl (by kernel_rfl) (by kernel_rfl) (by kernel_rfl) (by rw [show ((DecimalText_v1 x y z) == (DecimalText_v1 x y z)) = true from beq_iff_eq.2 rfl]; rfl))) (h := ?_)
    refine W.q (v := .bool false) (hr := (r_pick (b := false) rfl (by kernel_rfl) (by kernel_rfl))) (h := ?_)
    refine W.endF 174 [(0, .slice A n c), (2, .bool false), (3, .int .i64 x), (4, .int .i64 y), (5, .int .i64 z), (6, .string (DecimalText_v0 x y z)), (7, .bool (DecimalText_v1 x y z)), (8, .string (DecimalText_v0 x y z)), (9, .bool (DecimalText_v1 x y z)), (29, .bool false), (57, .bool false)] (fun U30 => ?_)
    refine h9 _ _ ?_
    refine wp_cond_false (by kernel_rfl) ?_
    refine wp_skip ?_
    refine h7 _ _ ?_
    refine joinK (fun amj1 aaj1 wlj1 => ∃ (Uj1 : Nat → Value), aaj1 = ⟨(fr Uj1 [(0, .slice A n c), (2, .bool false)] 174 0).toArray, []⟩ ∧ (amj1 = 0) ∧ (Below w.heap.size w wlj1)) ?_ ?_
    · rintro amj1 aaj1 wlj1 ⟨Uj1, rfl, rfl, c31⟩
      refine wp_seq_k (fun K10 h10 => ?_)
      refine W.region_plain (row := none) [(0, false), (1, true), (2, false), (3, false), (4, false), (5, true), (6, true), (7, false)] (by kernel_rfl) ?_
      have s32 := SG.self wlj1 none
      refine W.mv (v := .slice A n c) (h := ?_)
      refine W.sc (vs := [.slice A n c]) rfl rfl (by kernel_rfl) (by kernel_rfl) (by kernel_rfl) rfl (DrawVolumeIn_any A n c zs _ (Rd.kept hcode (SG.belowR c31 s32 (fun kq e => by cases e))) hz (by have h9 := of_decide_eq_false q6; omega)) ?_
      rintro e w34 ⟨v, u, m, rfl, hm5, b33⟩
      have s35 := SG.of_below s32 b33
      refine ⟨_, rfl, s35, ?_⟩
      refine W.mv (v := .tuple #[.agg #[.int .i64 v, .int .i64 u], .int .i64 m]) (h := ?_)
      refine W.q (v := .agg #[.int .i64 v, .int .i64 u]) (hr := (r_extract (vs := #[.agg #[.int .i64 v, .int .i64 u], .int .i64 m]) rfl (by kernel_rfl) (by kernel_rfl))) (h := ?_)
      refine W.q (v := .int .i64 m) (hr := (r_extract (vs := #[.agg #[.int .i64 v, .int .i64 u], .int .i64 m]) rfl (by kernel_rfl) (by kernel_rfl))) (h := ?_)
      refine W.sn (fun b => .pointer (some ⟨b, 0, none⟩)) #[.int .i64 0, .int .i64 0] 26 s35 rfl (by kernel_rfl) rfl (fun _ => by kernel_rfl) (fun b36 w37 hb38 k39 x40 s41 => ?_)
      have lo42 : w.heap.size ≤ b36 := by have := ((SG.belowR c31 s35 (fun kq e => by cases e))).size; omega
      refine W.ss (v := .agg #[.int .i64 v, .int .i64 u]) (j := 0) (news := [.int .i64 v, .int .i64 u]) (cs' := #[.int .i64 v, .int .i64 u]) s41 rfl (by kernel_rfl) rfl rfl (by kernel_rfl) (by kernel_rfl) x40 (by kernel_rfl) (by kernel_rfl) (by simp) (by kernel_rfl) (by kernel_rfl) (.inr (by have := (s35).size; have := hb38; omega)) (fun w43 g44 x45 s46 => ?_)
      refine W.as (v := .int .i64 m) (h := ?_)
      refine W.endF 174 [(0, .slice A n c), (2, .bool false), (10, .pointer (some ⟨b36, 0, none⟩)), (11, .int .i64 m)] (fun U47 => ?_)
      have c48 := (SG.belowR c31 s46 (fun kq e => by cases e))
      refine h10 _ _ ?_
      refine wp_seq_k (fun K11 h11 => ?_)
      refine W.region_plain (row := none) [(0, false), (1, false), (2, true), (3, false), (4, false), (5, false), (6, false), (7, false), (8, false), (9, false)] (by kernel_rfl) ?_
      have s49 := SG.self w43 none
      refine W.q (v := .agg #[.int .i64 v, .int .i64 u]) (hr := (r_load2 rfl (by kernel_rfl) (by kernel_rfl) (by kernel_rfl) (sgS (blk_cell (j := 0) x45 (by kernel_rfl)) (by simp)) (sgS (blk_cell (j := 1) x45 (by kernel_rfl)) (by simp)))) (h := ?_)
      refine W.mv (v := .int .i64 m) (h := ?_)
      refine W.sc (vs := [.agg #[.int .i64 v, .int .i64 u], .int .i64 m]) rfl rfl (by kernel_rfl) (by kernel_rfl) (by kernel_rfl) rfl (VolumeIn_impl' v u m _ _ _ rfl rfl rfl _ (Flows.later hfl (SG.belowR c48 s49 (fun kq e => by cases e)))) ?_
      rintro e w51 ⟨rfl, b50⟩
      have s52 := SG.of_below s49 b50
      refine ⟨_, rfl, s52, ?_⟩
      refine W.mv (v := .tuple #[.int .i64 (volX v u m), .int .i64 (volY v u m), .bool (volB v u m)]) (h := ?_)
      refine W.q (v := .int .i64 (volX v u m)) (hr := (r_extract (vs := #[.int .i64 (volX v u m), .int .i64 (volY v u m), .bool (volB v u m)]) rfl (by kernel_rfl) (by kernel_rfl))) (h := ?_)
      refine W.q (v := .int .i64 (volY v u m)) (hr := (r_extract (vs := #[.int .i64 (volX v u m), .int .i64 (volY v u m), .bool (volB v u m)]) rfl (by kernel_rfl) (by kernel_rfl))) (h := ?_)
      refine W.q (v := .bool (volB v u m)) (hr := (r_extract (vs := #[.int .i64 (volX v u m), .int .i64 (volY v u m), .bool (volB v u m)]) rfl (by kernel_rfl) (by kernel_rfl))) (h := ?_)
      refine W.as (v := .int .i64 (volX v u m)) (h := ?_)
      refine W.as (v := .int .i64 (volY v u m)) (h := ?_)
      refine W.as (v := .bool (volB v u m)) (h := ?_)
      refine W.endF 174 [(0, .slice A n c), (2, .bool false), (10, .pointer (some ⟨b36, 0, none⟩)), (11, .int .i64 m), (12, .int .i64 (volX v u m)), (13, .int .i64 (volY v u m)), (14, .bool (volB v u m))] (fun U53 => ?_)
      have x45 := SG.blk s52 x45 (by simp)
      have c54 := (SG.belowR c48 s52 (fun kq e => by cases e))
      refine h11 _ _ ?_
      refine wp_seq_k (fun K12 h12 => ?_)
      refine wp_seq_k (fun K13 h13 => ?_)
      refine W.region_plain (row := none) [(0, false), (1, false), (2, true), (3, false), (4, false), (5, false), (6, false), (7, false), (8, false), (9, false)] (by kernel_rfl) ?_
      have s55 := SG.self w51 none
      refine W.q (v := .agg #[.int .i64 v, .int .i64 u]) (hr := (r_load2 rfl (by kernel_rfl) (by kernel_rfl) (by kernel_rfl) (sgS (blk_cell (j := 0) x45 (by kernel_rfl)) (by simp)) (sgS (blk_cell (j := 1) x45 (by kernel_rfl)) (by simp)))) (h := ?_)
      refine W.mv (v := .int .i64 m) (h := ?_)
      refine W.sc (vs := [.agg #[.int .i64 v, .int .i64 u], .int .i64 m]) rfl rfl (by kernel_rfl) (by kernel_rfl) (by kernel_rfl) rfl (VolumeIn_spec' v u m _ _ _ rfl rfl rfl _) ?_
      rintro e w57 ⟨rfl, b56⟩
      have s58 := SG.of_below s55 b56
      refine ⟨_, rfl, s58, ?_⟩
      refine W.mv (v := .tuple #[.int .i64 (volX v u m), .int .i64 (volY v u m), .bool (volB v u m)]) (h := ?_)
      refine W.q (v := .int .i64 (volX v u m)) (hr := (r_extract (vs := #[.int .i64 (volX v u m), .int .i64 (volY v u m), .bool (volB v u m)]) rfl (by kernel_rfl) (by kernel_rfl))) (h := ?_)
      refine W.q (v := .int .i64 (volY v u m)) (hr := (r_extract (vs := #[.int .i64 (volX v u m), .int .i64 (volY v u m), .bool (volB v u m)]) rfl (by kernel_rfl) (by kernel_rfl))) (h := ?_)
      refine W.q (v := .bool (volB v u m)) (hr := (r_extract (vs := #[.int .i64 (volX v u m), .int .i64 (volY v u m), .bool (volB v u m)]) rfl (by kernel_rfl) (by kernel_rfl))) (h := ?_)
      refine W.as (v := .int .i64 (volX v u m)) (h := ?_)
      refine W.as (v := .int .i64 (volY v u m)) (h := ?_)
      refine W.as (v := .bool (volB v u m)) (h := ?_)
      refine W.endF 174 [(0, .slice A n c), (2, .bool false), (10, .pointer (some ⟨b36, 0, none⟩)), (11, .int .i64 m), (12, .int .i64 (volX v u m)), (13, .int .i64 (volY v u m)), (14, .bool (volB v u m)), (15, .int .i64 (volX v u m)), (16, .int .i64 (volY v u m)), (17, .bool (volB v u m))] (fun U59 => ?_)
      have x45 := SG.blk s58 x45 (by simp)
      have c60 := (SG.belowR c54 s58 (fun kq e => by cases e))
      refine h13 _ _ ?_
      refine wp_seq_k (fun K14 h14 => ?_)
      refine W.region_quiet [(0, false), (1, false), (2, false), (3, false), (4, false), (5, false), (6, false), (7, false), (8, false), (9, false), (10, false), (11, false), (12, false)] (by kernel_rfl) ?_
      refine W.mv (v := .int .i64 (volX v u m)) (h := ?_)
      refine W.mv (v := .int .i64 (volX v u m)) (h := ?_)
      refine W.q (v := .bool false) (hr := (r_neq (m := (volX v u m)) (n := (volX v u m)) rfl (by kernel_rfl) (by kernel_rfl) (decide_eq_false (by omega)))) (h := ?_)
      refine W.mv (v := .bool false) (h := ?_)
      refine W.mv (v := .int .i64 (volY v u m)) (h := ?_)
      refine W.mv (v := .int .i64 (volY v u m)) (h := ?_)
      refine W.q (v := .bool false) (hr := (r_neq (m := (volY v u m)) (n := (volY v u m)) rfl (by kernel_rfl) (by kernel_rfl) (decide_eq_false (by omega)))) (h := ?_)
      refine W.q (v := .bool false) (hr := (r_pick (b := false) rfl (by kernel_rfl) (by kernel_rfl))) (h := ?_)
      refine W.mv (v := .bool false) (h := ?_)
      refine W.mv (v := .bool (volB v u m)) (h := ?_)
      refine W.mv (v := .bool (volB v u m)) (h := ?_)
      refine W.q (v := .bool false) (hr := (r_neqB (m := (volB v u m)) (n := (volB v u m)) rfl (by kernel_rfl) (by kernel_rfl) (by kernel_rfl) (by rw [show ((volB v u m) == (volB v u m)) = true from beq_iff_eq.2 rfl]; rfl))) (h := ?_)
      refine W.q (v := .bool false) (hr := (r_pick (b := false) rfl (by kernel_rfl) (by kernel_rfl))) (h := ?_)
      refine W.endF 174 [(0, .slice A n c), (2, .bool false), (10, .pointer (some ⟨b36, 0, none⟩)), (11, .int .i64 m), (12, .int .i64 (volX v u m)), (13, .int .i64 (volY v u m)), (14, .bool (volB v u m)), (15, .int .i64 (volX v u m)), (16, .int .i64 (volY v u m)), (17, .bool (volB v u m)), (111, .bool false)] (fun U61 => ?_)
      refine h14 _ _ ?_
      refine wp_cond_false (by kernel_rfl) ?_
      refine wp_skip ?_
      refine h12 _ _ ?_
      refine joinK (fun amj2 aaj2 wlj2 => ∃ (Uj2 : Nat → Value), aaj2 = ⟨(fr Uj2 [(0, .slice A n c), (2, .bool false)] 174 0).toArray, []⟩ ∧ (amj2 = 0) ∧ (wlj2.heap[b36]? = some (.cells #[.int .i64 v, .int .i64 u] 26 (0, 0))) ∧ (Below w.heap.size w wlj2)) ?_ ?_
      · rintro amj2 aaj2 wlj2 ⟨Uj2, rfl, rfl, x45, c62⟩
        refine wp_seq_k (fun K15 h15 => ?_)
        refine W.region_plain (row := none) [(0, false), (1, true), (2, false)] (by kernel_rfl) ?_
        have s63 := SG.self wlj2 none
        refine W.mv (v := .slice A n c) (h := ?_)
        refine W.sc (vs := [.slice A n c]) rfl rfl (by kernel_rfl) (by kernel_rfl) (by kernel_rfl) rfl (DrawBarsOf_any A n c zs _ (Rd.kept hcode (SG.belowR c62 s63 (fun kq e => by cases e))) hz (by have h9 := of_decide_eq_false q6; omega)) ?_
        rintro e w65 ⟨q, rfl, hq5, b64⟩
        have s66 := SG.of_below s63 b64
        refine ⟨_, rfl, s66, ?_⟩
        refine W.as (v := .int .i64 q) (h := ?_)
        refine W.endF 174 [(0, .slice A n c), (2, .bool false), (21, .int .i64 q)] (fun U67 => ?_)
        have x45 := SG.blk s66 x45 (by simp)
        have c68 := (SG.belowR c62 s66 (fun kq e => by cases e))
        refine h15 _ _ ?_
        refine wp_seq_k (fun K16 h16 => ?_)
        refine W.region_plain (row := none) [(0, false), (1, true), (2, false), (3, false), (4, false), (5, false), (6, false), (7, false), (8, false)] (by kernel_rfl) ?_
        have s69 := SG.self w65 none
        refine W.mv (v := .int .i64 q) (h := ?_)
        refine W.sc (vs := [.int .i64 q]) rfl rfl (by kernel_rfl) (by kernel_rfl) (by kernel_rfl) rfl (BarsOf_impl' q _ _ _ rfl rfl rfl _) ?_
        rintro e w71 ⟨rfl, b70⟩
        have s72 := SG.of_below s69 b70
        refine ⟨_, rfl, s72, ?_⟩
        refine W.mv (v := .tuple #[.int .i64 (barX q), .int .i64 (barY q), .bool (barB q)]) (h := ?_)
        refine W.q (v := .int .i64 (barX q)) (hr := (r_extract (vs := #[.int .i64 (barX q), .int .i64 (barY q), .bool (barB q)]) rfl (by kernel_rfl) (by kernel_rfl))) (h := ?_)
        refine W.q (v := .int .i64 (barY q)) (hr := (r_extract (vs := #[.int .i64 (barX q), .int .i64 (barY q), .bool (barB q)]) rfl (by kernel_rfl) (by kernel_rfl))) (h := ?_)
        refine W.q (v := .bool (barB q)) (hr := (r_extract (vs := #[.int .i64 (barX q), .int .i64 (barY q), .bool (barB q)]) rfl (by kernel_rfl) (by kernel_rfl))) (h := ?_)
        refine W.as (v := .int .i64 (barX q)) (h := ?_)
        refine W.as (v := .int .i64 (barY q)) (h := ?_)
        refine W.as (v := .bool (barB q)) (h := ?_)
        refine W.endF 174 [(0, .slice A n c), (2, .bool false), (21, .int .i64 q), (22, .int .i64 (barX q)), (23, .int .i64 (barY q)), (24, .bool (barB q))] (fun U73 => ?_)
        have x45 := SG.blk s72 x45 (by simp)
        have c74 := (SG.belowR c68 s72 (fun kq e => by cases e))
        refine h16 _ _ ?_
        refine wp_seq_k (fun K17 h17 => ?_)
        refine W.region_plain (row := none) [(0, false), (1, true), (2, false), (3, false), (4, false), (5, false), (6, false), (7, false), (8, false)] (by kernel_rfl) ?_
        have s75 := SG.self w71 none
        refine W.mv (v := .int .i64 q) (h := ?_)
        refine W.sc (vs := [.int .i64 q]) rfl rfl (by kernel_rfl) (by kernel_rfl) (by kernel_rfl) rfl (BarsOf_spec' q _ _ _ rfl rfl rfl _) ?_
        rintro e w77 ⟨rfl, b76⟩
        have s78 := SG.of_below s75 b76
        refine ⟨_, rfl, s78, ?_⟩
        refine W.mv (v := .tuple #[.int .i64 (barX q), .int .i64 (barY q), .bool (barB q)]) (h := ?_)
        refine W.q (v := .int .i64 (barX q)) (hr := (r_extract (vs := #[.int .i64 (barX q), .int .i64 (barY q), .bool (barB q)]) rfl (by kernel_rfl) (by kernel_rfl))) (h := ?_)
        refine W.q (v := .int .i64 (barY q)) (hr := (r_extract (vs := #[.int .i64 (barX q), .int .i64 (barY q), .bool (barB q)]) rfl (by kernel_rfl) (by kernel_rfl))) (h := ?_)
        refine W.q (v := .bool (barB q)) (hr := (r_extract (vs := #[.int .i64 (barX q), .int .i64 (barY q), .bool (barB q)]) rfl (by kernel_rfl) (by kernel_rfl))) (h := ?_)
        refine W.as (v := .int .i64 (barX q)) (h := ?_)
        refine W.as (v := .int .i64 (barY q)) (h := ?_)
        refine W.as (v := .bool (barB q)) (h := ?_)
        refine W.endF 174 [(0, .slice A n c), (2, .bool false), (21, .int .i64 q), (22, .int .i64 (barX q)), (23, .int .i64 (barY q)), (24, .bool (barB q)), (25, .int .i64 (barX q)), (26, .int .i64 (barY q)), (27, .bool (barB q))] (fun U79 => ?_)
        have x45 := SG.blk s78 x45 (by simp)
        have c80 := (SG.belowR c74 s78 (fun kq e => by cases e))
        refine h17 _ _ ?_
        refine wp_seq_k (fun K18 h18 => ?_)
        refine W.region_quiet [(0, false), (1, false), (2, false), (3, false), (4, false), (5, false), (6, false), (7, false), (8, false), (9, false), (10, false), (11, false), (12, false), (13, false), (14, false), (15, false), (16, false), (17, false), (18, false), (19, false), (20, false), (21, false), (22, false), (23, false), (24, false), (25, false), (26, false)] (by kernel_rfl) ?_
        refine W.mv (v := .int .i64 (barX q)) (h := ?_)
        refine W.mv (v := .int .i64 (barX q)) (h := ?_)
        refine W.q (v := .bool true) (hr := (r_eql (m := (barX q)) (n := (barX q)) rfl (by kernel_rfl) (by kernel_rfl) (decide_eq_true (by omega)))) (h := ?_)
        refine W.mv (v := .bool true) (h := ?_)
        refine W.mv (v := .int .i64 (barY q)) (h := ?_)
        refine W.mv (v := .int .i64 (barY q)) (h := ?_)
        refine W.q (v := .bool true) (hr := (r_eql (m := (barY q)) (n := (barY q)) rfl (by kernel_rfl) (by kernel_rfl) (decide_eq_true (by omega)))) (h := ?_)
        refine W.q (v := .bool true) (hr := (r_pick (b := true) rfl (by kernel_rfl) (by kernel_rfl))) (h := ?_)
        refine W.mv (v := .bool true) (h := ?_)
        refine W.mv (v := .bool (barB q)) (h := ?_)
        refine W.mv (v := .bool (barB q)) (h := ?_)
        refine W.q (v := .bool true) (hr := (r_eqlB (m := (barB q)) (n := (barB q)) rfl (by kernel_rfl) (by kernel_rfl) (by kernel_rfl) (beq_iff_eq.2 rfl))) (h := ?_)
        refine W.q (v := .bool true) (hr := (r_pick (b := true) rfl (by kernel_rfl) (by kernel_rfl))) (h := ?_)
        refine W.mv (v := .bool true) (h := ?_)
        refine W.mv (v := .bool (barB q)) (h := ?_)
        rcases Bool.eq_false_or_eq_true (barB q) with q81 | q81
        · rw [q81]
          refine W.q (v := .bool false) (hr := (r_not (b := true) rfl (by kernel_rfl) rfl)) (h := ?_)
          refine W.mv (v := .bool false) (h := ?_)
          refine W.mv (v := .int .i64 (barX q)) (h := ?_)
          have hbx := barX_bd q
          refine W.q (v := .int .i64 (51 * (barX q))) (hr := (r_mulK (k := .i64) (m := 51) (n := (barX q)) (z := (51 * (barX q))) rfl (by kernel_rfl) (by kernel_rfl) (wrap_i64 (by omega) (by omega)))) (h := ?_)
          refine W.mv (v := .int .i64 q) (h := ?_)
          refine W.q (v := .int .i64 (5 * q)) (hr := (r_mulK (k := .i64) (m := 5) (n := q) (z := (5 * q)) rfl (by kernel_rfl) (by kernel_rfl) (wrap_i64 (by omega) (by omega)))) (h := ?_)
          refine W.mv (v := .int .i64 (barY q)) (h := ?_)
          have hby := barY_bd q
          have hbq := inB_yes.1 (show inB q 0 1000 = true from q81)
          have hbm := mul_bd (a := 5 * q) (x := 5000) (by omega) hby
          refine W.q (v := .int .i64 (5 * q * (barY q))) (hr := (r_mulK (k := .i64) (m := (5 * q)) (n := (barY q)) (z := (5 * q * (barY q))) rfl (by kernel_rfl) (by kernel_rfl) (wrap_i64 (by omega) (by omega)))) (h := ?_)
          refine W.q (v := .bool true) (hr := (r_eql (m := (51 * (barX q))) (n := (5 * q * (barY q))) rfl (by kernel_rfl) (by kernel_rfl) (decide_eq_true (by have h9 := bar_law q81; omega)))) (h := ?_)
          refine W.q (v := .bool true) (hr := (r_pick (b := false) rfl (by kernel_rfl) (by kernel_rfl))) (h := ?_)
          refine W.q (v := .bool true) (hr := (r_pick (b := true) rfl (by kernel_rfl) (by kernel_rfl))) (h := ?_)
          refine W.as (v := .bool true) (h := ?_)
          refine W.endF 174 [(0, .slice A n c), (2, .bool true), (21, .int .i64 q), (22, .int .i64 (barX q)), (23, .int .i64 (barY q)), (24, .bool true), (25, .int .i64 (barX q)), (26, .int .i64 (barY q)), (27, .bool true)] (fun U82 => ?_)
          refine h18 _ _ ?_
          refine wp_ret ?_
          try simp only [Exit.then]
          refine ret1 (v := .bool true) rfl (by kernel_rfl) ?_
          exact ⟨rfl, c80⟩
        · rw [q81]
          refine W.q (v := .bool true) (hr := (r_not (b := false) rfl (by kernel_rfl) rfl)) (h := ?_)
          refine W.mv (v := .bool true) (h := ?_)
          refine W.sp rfl (h := ?_)
          refine W.sp rfl (h := ?_)
          refine W.sp rfl (h := ?_)
          refine W.sp rfl (h := ?_)
          refine W.sp rfl (h := ?_)
          refine W.sp rfl (h := ?_)
          refine W.sp rfl (h := ?_)
          refine W.q (v := .bool true) (hr := (r_pick (b := true) rfl (by kernel_rfl) (by kernel_rfl))) (h := ?_)
          refine W.q (v := .bool true) (hr := (r_pick (b := true) rfl (by kernel_rfl) (by kernel_rfl))) (h := ?_)
          refine W.as (v := .bool true) (h := ?_)
          refine W.endF 174 [(0, .slice A n c), (2, .bool true), (21, .int .i64 q), (22, .int .i64 (barX q)), (23, .int .i64 (barY q)), (24, .bool false), (25, .int .i64 (barX q)), (26, .int .i64 (barY q)), (27, .bool false)] (fun U83 => ?_)
          refine h18 _ _ ?_
          refine wp_ret ?_
          try simp only [Exit.then]
          refine ret1 (v := .bool true) rfl (by kernel_rfl) ?_
          exact ⟨rfl, c80⟩
      intro K19 h19
      refine wp_seq_k (fun K20 h20 => ?_)
      refine W.region_plain (row := none) [(0, false), (1, false), (2, false), (3, true), (4, false), (5, false), (6, false), (7, false), (8, false), (9, false), (10, false)] (by kernel_rfl) ?_
      have s84 := SG.self w57 none
      refine W.q (v := .agg #[.int .i64 v, .int .i64 u]) (hr := (r_load2 rfl (by kernel_rfl) (by kernel_rfl) (by kernel_rfl) (sgS (blk_cell (j := 0) x45 (by kernel_rfl)) (by simp)) (sgS (blk_cell (j := 1) x45 (by kernel_rfl)) (by simp)))) (h := ?_)
      refine W.mv (v := .int .i64 m) (h := ?_)
      refine W.q (v := .int .i64 (2 * m)) (hr := (r_mulK (k := .i64) (m := 2) (n := m) (z := (2 * m)) rfl (by kernel_rfl) (by kernel_rfl) (wrap_i64 (by omega) (by omega)))) (h := ?_)
      refine W.sc (vs := [.agg #[.int .i64 v, .int .i64 u], .int .i64 (2 * m)]) rfl rfl (by kernel_rfl) (by kernel_rfl) (by kernel_rfl) rfl (VolumeIn_impl' v u (2 * m) _ _ _ rfl rfl rfl _ (Flows.later hfl (SG.belowR c60 s84 (fun kq e => by cases e)))) ?_
      rintro e w86 ⟨rfl, b85⟩
      have s87 := SG.of_below s84 b85
      refine ⟨_, rfl, s87, ?_⟩
      refine W.mv (v := .tuple #[.int .i64 (volX v u (2 * m)), .int .i64 (volY v u (2 * m)), .bool (volB v u (2 * m))]) (h := ?_)
      refine W.q (v := .int .i64 (volX v u (2 * m))) (hr := (r_extract (vs := #[.int .i64 (volX v u (2 * m)), .int .i64 (volY v u (2 * m)), .bool (volB v u (2 * m))]) rfl (by kernel_rfl) (by kernel_rfl))) (h := ?_)
      refine W.q (v := .int .i64 (volY v u (2 * m))) (hr := (r_extract (vs := #[.int .i64 (volX v u (2 * m)), .int .i64 (volY v u (2 * m)), .bool (volB v u (2 * m))]) rfl (by kernel_rfl) (by kernel_rfl))) (h := ?_)
      refine W.q (v := .bool (volB v u (2 * m))) (hr := (r_extract (vs := #[.int .i64 (volX v u (2 * m)), .int .i64 (volY v u (2 * m)), .bool (volB v u (2 * m))]) rfl (by kernel_rfl) (by kernel_rfl))) (h := ?_)
      refine W.as (v := .int .i64 (volX v u (2 * m))) (h := ?_)
      refine W.as (v := .int .i64 (volY v u (2 * m))) (h := ?_)
      refine W.as (v := .bool (volB v u (2 * m))) (h := ?_)
      refine W.endF 174 [(0, .slice A n c), (2, .bool false), (10, .pointer (some ⟨b36, 0, none⟩)), (11, .int .i64 m), (12, .int .i64 (volX v u m)), (13, .int .i64 (volY v u m)), (14, .bool (volB v u m)), (15, .int .i64 (volX v u m)), (16, .int .i64 (volY v u m)), (17, .bool (volB v u m)), (18, .int .i64 (volX v u (2 * m))), (19, .int .i64 (volY v u (2 * m))), (20, .bool (volB v u (2 * m))), (111, .bool false)] (fun U88 => ?_)
      have x45 := SG.blk s87 x45 (by simp)
      have c89 := (SG.belowR c60 s87 (fun kq e => by cases e))
      refine h20 _ _ ?_
      refine wp_seq_k (fun K21 h21 => ?_)
      refine W.region_quiet [(0, false), (1, false), (2, false), (3, false), (4, false), (5, false), (6, false), (7, false), (8, false), (9, false), (10, false), (11, false), (12, false), (13, false)] (by kernel_rfl) ?_
      refine W.mv (v := .bool (volB v u m)) (h := ?_)
      refine W.mv (v := .bool (volB v u m)) (h := ?_)
      rcases Bool.eq_false_or_eq_true (volB v u m) with q90 | q90
      · rw [q90]
        refine W.mv (v := .bool (volB v u (2 * m))) (h := ?_)
        refine W.q (v := .bool (volB v u (2 * m))) (hr := (r_pick (b := true) rfl (by kernel_rfl) (by kernel_rfl))) (h := ?_)
        refine W.mv (v := .bool (volB v u (2 * m))) (h := ?_)
        rcases Bool.eq_false_or_eq_true (volB v u (2 * m)) with q91 | q91
        · rw [q91]
          refine W.mv (v := .int .i64 (volX v u (2 * m))) (h := ?_)
          refine W.mv (v := .int .i64 (volY v u m)) (h := ?_)
          have hmb92 := mul_bd (volX_bd v u (2 * m)) (volY_bd v u m)
          refine W.q (v := .int .i64 ((volX v u (2 * m)) * (volY v u m))) (hr := (r_mulK (k := .i64) (m := (volX v u (2 * m))) (n := (volY v u m)) (z := ((volX v u (2 * m)) * (volY v u m))) rfl (by kernel_rfl) (by kernel_rfl) (wrap_i64 (by omega) (by omega)))) (h := ?_)
          refine W.mv (v := .int .i64 (volX v u m)) (h := ?_)
          have hxb := volX_bd v u m
          refine W.q (v := .int .i64 (2 * (volX v u m))) (hr := (r_mulK (k := .i64) (m := 2) (n := (volX v u m)) (z := (2 * (volX v u m))) rfl (by kernel_rfl) (by kernel_rfl) (wrap_i64 (by omega) (by omega)))) (h := ?_)
          refine W.mv (v := .int .i64 (volY v u (2 * m))) (h := ?_)
          have hmb93 := mul_bd ((show 0 ≤ 2 * volX v u m ∧ 2 * volX v u m ≤ 43200000000000 by have := volX_bd v u m; omega)) (volY_bd v u (2 * m))
          refine W.q (v := .int .i64 ((2 * (volX v u m)) * (volY v u (2 * m)))) (hr := (r_mulK (k := .i64) (m := (2 * (volX v u m))) (n := (volY v u (2 * m))) (z := ((2 * (volX v u m)) * (volY v u (2 * m)))) rfl (by kernel_rfl) (by kernel_rfl) (wrap_i64 (by omega) (by omega)))) (h := ?_)
          refine W.q (v := .bool false) (hr := (r_neq (m := ((volX v u (2 * m)) * (volY v u m))) (n := ((2 * (volX v u m)) * (volY v u (2 * m)))) rfl (by kernel_rfl) (by kernel_rfl) (decide_eq_false (by have h9 := vol_double q90 q91; omega)))) (h := ?_)
          refine W.q (v := .bool false) (hr := (r_pick (b := true) rfl (by kernel_rfl) (by kernel_rfl))) (h := ?_)
          refine W.endF 174 [(0, .slice A n c), (2, .bool false), (10, .pointer (some ⟨b36, 0, none⟩)), (11, .int .i64 m), (12, .int .i64 (volX v u m)), (13, .int .i64 (volY v u m)), (14, .bool true), (15, .int .i64 (volX v u m)), (16, .int .i64 (volY v u m)), (17, .bool true), (18, .int .i64 (volX v u (2 * m))), (19, .int .i64 (volY v u (2 * m))), (20, .bool true), (111, .bool false), (133, .bool false)] (fun U94 => ?_)
          refine h21 _ _ ?_
          refine wp_cond_false (by kernel_rfl) ?_
          refine wp_skip ?_
          exact h19 _ _ _ ⟨(fun iU9 => lk [(0, .slice A n c), (2, .bool false), (10, .pointer (some ⟨b36, 0, none⟩)), (11, .int .i64 m), (12, .int .i64 (volX v u m)), (13, .int .i64 (volY v u m)), (14, .bool true), (15, .int .i64 (volX v u m)), (16, .int .i64 (volY v u m)), (17, .bool true), (18, .int .i64 (volX v u (2 * m))), (19, .int .i64 (volY v u (2 * m))), (20, .bool true), (111, .bool false), (133, .bool false)] iU9 (U94 iU9)), (by kernel_rfl), rfl, x45, c89⟩
        · rw [q91]
          refine W.sp rfl (h := ?_)
          refine W.sp rfl (h := ?_)
          refine W.sp rfl (h := ?_)
          refine W.sp rfl (h := ?_)
          refine W.sp rfl (h := ?_)
          refine W.sp rfl (h := ?_)
          refine W.sp rfl (h := ?_)
          refine W.sp rfl (h := ?_)
          refine W.q (v := .bool false) (hr := (r_pick (b := false) rfl (by kernel_rfl) (by kernel_rfl))) (h := ?_)
          refine W.endF 174 [(0, .slice A n c), (2, .bool false), (10, .pointer (some ⟨b36, 0, none⟩)), (11, .int .i64 m), (12, .int .i64 (volX v u m)), (13, .int .i64 (volY v u m)), (14, .bool true), (15, .int .i64 (volX v u m)), (16, .int .i64 (volY v u m)), (17, .bool true), (18, .int .i64 (volX v u (2 * m))), (19, .int .i64 (volY v u (2 * m))), (20, .bool false), (111, .bool false), (133, .bool false)] (fun U95 => ?_)
          refine h21 _ _ ?_
          refine wp_cond_false (by kernel_rfl) ?_
          refine wp_skip ?_
          exact h19 _ _ _ ⟨(fun iU9 => lk [(0, .slice A n c), (2, .bool false), (10, .pointer (some ⟨b36, 0, none⟩)), (11, .int .i64 m), (12, .int .i64 (volX v u m)), (13, .int .i64 (volY v u m)), (14, .bool true), (15, .int .i64 (volX v u m)), (16, .int .i64 (volY v u m)), (17, .bool true), (18, .int .i64 (volX v u (2 * m))), (19, .int .i64 (volY v u (2 * m))), (20, .bool false), (111, .bool false), (133, .bool false)] iU9 (U95 iU9)), (by kernel_rfl), rfl, x45, c89⟩
      · rw [q90]
        refine W.sp rfl (h := ?_)
        refine W.q (v := .bool false) (hr := (r_pick (b := false) rfl (by kernel_rfl) (by kernel_rfl))) (h := ?_)
        refine W.mv (v := .bool false) (h := ?_)
        refine W.sp rfl (h := ?_)
        refine W.sp rfl (h := ?_)
        refine W.sp rfl (h := ?_)
        refine W.sp rfl (h := ?_)
        refine W.sp rfl (h := ?_)
        refine W.sp rfl (h := ?_)
        refine W.sp rfl (h := ?_)
        refine W.sp rfl (h := ?_)
        refine W.q (v := .bool false) (hr := (r_pick (b := false) rfl (by kernel_rfl) (by kernel_rfl))) (h := ?_)
        refine W.endF 174 [(0, .slice A n c), (2, .bool false), (10, .pointer (some ⟨b36, 0, none⟩)), (11, .int .i64 m), (12, .int .i64 (volX v u m)), (13, .int .i64 (volY v u m)), (14, .bool false), (15, .int .i64 (volX v u m)), (16, .int .i64 (volY v u m)), (17, .bool false), (18, .int .i64 (volX v u (2 * m))), (19, .int .i64 (volY v u (2 * m))), (20, .bool (volB v u (2 * m))), (111, .bool false), (133, .bool false)] (fun U96 => ?_)
        refine h21 _ _ ?_
        refine wp_cond_false (by kernel_rfl) ?_
        refine wp_skip ?_
        exact h19 _ _ _ ⟨(fun iU9 => lk [(0, .slice A n c), (2, .bool false), (10, .pointer (some ⟨b36, 0, none⟩)), (11, .int .i64 m), (12, .int .i64 (volX v u m)), (13, .int .i64 (volY v u m)), (14, .bool false), (15, .int .i64 (volX v u m)), (16, .int .i64 (volY v u m)), (17, .bool false), (18, .int .i64 (volX v u (2 * m))), (19, .int .i64 (volY v u (2 * m))), (20, .bool (volB v u (2 * m))), (111, .bool false), (133, .bool false)] iU9 (U96 iU9)), (by kernel_rfl), rfl, x45, c89⟩
    intro K22 h22
    refine wp_seq_k (fun K23 h23 => ?_)
    refine W.region_quiet [(0, false), (1, false), (2, false), (3, false), (4, false), (5, false), (6, false), (7, false), (8, false), (9, false), (10, false), (11, false), (12, false), (13, false), (14, false), (15, false), (16, false), (17, false), (18, false), (19, false), (20, false), (21, false)] (by kernel_rfl) ?_
    refine W.mv (v := .bool (DecimalText_v1 x y z)) (h := ?_)
    refine W.mv (v := .bool (DecimalText_v1 x y z)) (h := ?_)
    rcases Bool.eq_false_or_eq_true (DecimalText_v1 x y z) with q97 | q97
    · rw [q97]
      refine W.mv (v := .int .i64 z) (h := ?_)
      by_cases q98 : (z : Int) > (0 : Int)
      · refine W.q (v := .bool true) (hr := (r_gtr (m := z) (n := 0) rfl (by kernel_rfl) (by kernel_rfl) (decide_eq_true q98))) (h := ?_)
        refine W.q (v := .bool true) (hr := (r_pick (b := true) rfl (by kernel_rfl) (by kernel_rfl))) (h := ?_)
        refine W.mv (v := .bool true) (h := ?_)
        refine W.mv (v := .string (DecimalText_v0 x y z)) (h := ?_)
        refine W.q (v := .int .i64 (((DecimalText_v0 x y z).size : Nat) : Int)) (hr := (r_lenS (s := (DecimalText_v0 x y z)) rfl (by kernel_rfl) (by kernel_rfl))) (h := ?_)
        refine W.mv (v := .int .i64 z) (h := ?_)
        refine W.q (v := .int .i64 (z + 2)) (hr := (r_add (m := z) (n := 2) (z := z + 2) rfl (by kernel_rfl) (by kernel_rfl) (rfl) (by omega))) (h := ?_)
        have hdp := dec_point q97 (by omega)
        refine W.q (v := .bool false) (hr := (r_lss (m := (((DecimalText_v0 x y z).size : Nat) : Int)) (n := z + 2) rfl (by kernel_rfl) (by kernel_rfl) (decide_eq_false (by omega)))) (h := ?_)
        refine W.mv (v := .bool false) (h := ?_)
        refine W.mv (v := .string (DecimalText_v0 x y z)) (h := ?_)
        refine W.mv (v := .string (DecimalText_v0 x y z)) (h := ?_)
        refine W.q (v := .int .i64 (((DecimalText_v0 x y z).size : Nat) : Int)) (hr := (r_lenS (s := (DecimalText_v0 x y z)) rfl (by kernel_rfl) (by kernel_rfl))) (h := ?_)
        refine W.mv (v := .int .i64 z) (h := ?_)
        refine W.q (v := .int .i64 ((((DecimalText_v0 x y z).size : Nat) : Int) - z)) (hr := (r_sub (m := (((DecimalText_v0 x y z).size : Nat) : Int)) (n := z) (z := (((DecimalText_v0 x y z).size : Nat) : Int) - z) rfl (by kernel_rfl) (by kernel_rfl) (rfl) (by omega))) (h := ?_)
        refine W.q (v := .int .i64 ((((DecimalText_v0 x y z).size : Nat) : Int) - z - 1)) (hr := (r_sub (m := (((DecimalText_v0 x y z).size : Nat) : Int) - z) (n := 1) (z := (((DecimalText_v0 x y z).size : Nat) : Int) - z - 1) rfl (by kernel_rfl) (by kernel_rfl) (rfl) (by omega))) (h := ?_)
        refine W.q (v := .int .u8 ((bAt (DecimalText_v0 x y z) ((DecimalText_v0 x y z).size - z.toNat - 1) : Nat) : Int)) (hr := (r_indexS (s := (DecimalText_v0 x y z)) (k := ((DecimalText_v0 x y z).size - z.toNat - 1)) rfl (by kernel_rfl) (by rw [show ((((DecimalText_v0 x y z).size - z.toNat - 1 : Nat)) : Int) = (((DecimalText_v0 x y z).size : Nat) : Int) - z - 1 by omega]; kernel_rfl) (by kernel_rfl) (by omega))) (h := ?_)
        refine W.q (v := .bool false) (hr := (r_neqK (k := .u8) (m := ((bAt (DecimalText_v0 x y z) ((DecimalText_v0 x y z).size - z.toNat - 1) : Nat) : Int)) (n := 46) rfl (by kernel_rfl) (by kernel_rfl) (decide_eq_false (by omega)))) (h := ?_)
        refine W.q (v := .bool false) (hr := (r_pick (b := false) rfl (by kernel_rfl) (by kernel_rfl))) (h := ?_)
        refine W.q (v := .bool false) (hr := (r_pick (b := true) rfl (by kernel_rfl) (by kernel_rfl))) (h := ?_)
        refine W.endF 174 [(0, .slice A n c), (2, .bool false), (3, .int .i64 x), (4, .int .i64 y), (5, .int .i64 z), (6, .string (DecimalText_v0 x y z)), (7, .bool true), (8, .string (DecimalText_v0 x y z)), (9, .bool true), (29, .bool false), (57, .bool false), (79, .bool false)] (fun U99 => ?_)
        refine h23 _ _ ?_
        refine wp_cond_false (by kernel_rfl) ?_
        refine wp_skip ?_
        exact h22 _ _ _ ⟨(fun iU9 => lk [(0, .slice A n c), (2, .bool false), (3, .int .i64 x), (4, .int .i64 y), (5, .int .i64 z), (6, .string (DecimalText_v0 x y z)), (7, .bool true), (8, .string (DecimalText_v0 x y z)), (9, .bool true), (29, .bool false), (57, .bool false), (79, .bool false)] iU9 (U99 iU9)), (by kernel_rfl), rfl, c29⟩
      · refine W.q (v := .bool false) (hr := (r_gtr (m := z) (n := 0) rfl (by kernel_rfl) (by kernel_rfl) (decide_eq_false q98))) (h := ?_)
        refine W.q (v := .bool false) (hr := (r_pick (b := true) rfl (by kernel_rfl) (by kernel_rfl))) (h := ?_)
        refine W.mv (v := .bool false) (h := ?_)
        refine W.sp rfl (h := ?_)
        refine W.sp rfl (h := ?_)
        refine W.sp rfl (h := ?_)
        refine W.sp rfl (h := ?_)
        refine W.sp rfl (h := ?_)
        refine W.sp rfl (h := ?_)
        refine W.sp rfl (h := ?_)
        refine W.sp rfl (h := ?_)
        refine W.sp rfl (h := ?_)
        refine W.sp rfl (h := ?_)
        refine W.sp rfl (h := ?_)
        refine W.sp rfl (h := ?_)
        refine W.sp rfl (h := ?_)
        refine W.sp rfl (h := ?_)
        refine W.sp rfl (h := ?_)
        refine W.q (v := .bool false) (hr := (r_pick (b := false) rfl (by kernel_rfl) (by kernel_rfl))) (h := ?_)
        refine W.endF 174 [(0, .slice A n c), (2, .bool false), (3, .int .i64 x), (4, .int .i64 y), (5, .int .i64 z), (6, .string (DecimalText_v0 x y z)), (7, .bool true), (8, .string (DecimalText_v0 x y z)), (9, .bool true), (29, .bool false), (57, .bool false), (79, .bool false)] (fun U100 => ?_)
        refine h23 _ _ ?_
        refine wp_cond_false (by kernel_rfl) ?_
        refine wp_skip ?_
        exact h22 _ _ _ ⟨(fun iU9 => lk [(0, .slice A n c), (2, .bool false), (3, .int .i64 x), (4, .int .i64 y), (5, .int .i64 z), (6, .string (DecimalText_v0 x y z)), (7, .bool true), (8, .string (DecimalText_v0 x y z)), (9, .bool true), (29, .bool false), (57, .bool false), (79, .bool false)] iU9 (U100 iU9)), (by kernel_rfl), rfl, c29⟩
    · rw [q97]
      refine W.sp rfl (h := ?_)
      refine W.sp rfl (h := ?_)
      refine W.q (v := .bool false) (hr := (r_pick (b := false) rfl (by kernel_rfl) (by kernel_rfl))) (h := ?_)
      refine W.mv (v := .bool false) (h := ?_)
      refine W.sp rfl (h := ?_)
      refine W.sp rfl (h := ?_)
      refine W.sp rfl (h := ?_)
      refine W.sp rfl (h := ?_)
      refine W.sp rfl (h := ?_)
      refine W.sp rfl (h := ?_)
      refine W.sp rfl (h := ?_)
      refine W.sp rfl (h := ?_)
      refine W.sp rfl (h := ?_)
      refine W.sp rfl (h := ?_)
      refine W.sp rfl (h := ?_)
      refine W.sp rfl (h := ?_)
      refine W.sp rfl (h := ?_)
      refine W.sp rfl (h := ?_)
      refine W.sp rfl (h := ?_)
      refine W.q (v := .bool false) (hr := (r_pick (b := false) rfl (by kernel_rfl) (by kernel_rfl))) (h := ?_)
      refine W.endF 174 [(0, .slice A n c), (2, .bool false), (3, .int .i64 x), (4, .int .i64 y), (5, .int .i64 z), (6, .string (DecimalText_v0 x y z)), (7, .bool false), (8, .string (DecimalText_v0 x y z)), (9, .bool false), (29, .bool false), (57, .bool false), (79, .bool false)] (fun U101 => ?_)
      refine h23 _ _ ?_
      refine wp_cond_false (by kernel_rfl) ?_
      refine wp_skip ?_
      exact h22 _ _ _ ⟨(fun iU9 => lk [(0, .slice A n c), (2, .bool false), (3, .int .i64 x), (4, .int .i64 y), (5, .int .i64 z), (6, .string (DecimalText_v0 x y z)), (7, .bool false), (8, .string (DecimalText_v0 x y z)), (9, .bool false), (29, .bool false), (57, .bool false), (79, .bool false)] iU9 (U101 iU9)), (by kernel_rfl), rfl, c29⟩

theorem byte_of {n : Int} (h : (Lit.int .u8 n).wf = true) : 0 ≤ n ∧ n < 256 := by
  have h2 : (decide ((0 : Int) ≤ n) && decide (n ≤ 255)) = true := h
  simp only [Bool.and_eq_true, decide_eq_true_eq] at h2
  omega

theorem w_FnDecimals (x0 : Option Addr) (n0 p0 : Nat) (a0 : List Int) (w : World) (H0 : a0.length = n0 ∧ Rd w 1 x0 n0 (a0.map (Value.int .u8)) ∧ n0 ≤ maxLen ∧ ∀ n ∈ a0, (Lit.int .u8 n).wf = true) (htab : Lib.TabIs Tryd.prog w "internal/strconv.uint64pow10" .u64 Lib.pow10Tab) (hfl : Flows w) :
    Calls Tryd.prog 10 #[.slice x0 n0 p0] w fun e w' => e = .returned (.bool true) ∧ Below w.heap.size w w' :=
  wi_FnDecimals x0 n0 p0 a0 w H0.2.1 (fun z hz => byte_of (H0.2.2.2 z hz)) (by have := H0.2.2.1; unfold maxLen at this; omega) htab hfl

end Go.Proofs.YtlkphjlabmnjiaaDoor
