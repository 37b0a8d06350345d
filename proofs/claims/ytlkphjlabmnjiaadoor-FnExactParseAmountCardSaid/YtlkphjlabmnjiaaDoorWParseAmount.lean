/- The walk of the law FnExactParseAmount. -/
import Derived.Test.YtlkphjlabmnjiaaDoorAmtI
import Derived.Test.YtlkphjlabmnjiaaDoorNames
namespace Go.Proofs.YtlkphjlabmnjiaaDoor
open Go.RowKit
set_option linter.unusedVariables false
set_option linter.unusedSimpArgs false

set_option maxRecDepth 100000 in
set_option maxHeartbeats 1000000 in
theorem w_FnExactParseAmount (a0 : ByteArray) (k0 : a0.size ≤ maxLen) (w : World) (hmax : MaxIs w) (htab : Lib.TabIs Tryd.prog w "internal/strconv.uint64pow10" .u64 Lib.pow10Tab) (hnm : Names w) (hev : EvIs w) :
    Calls Tryd.prog 9 #[.string a0] w fun e w' => e = .returned (.bool true) ∧ Below w.heap.size w w' := by
  unfold maxLen at k0
  go_enter Tryd.func9, Tryd.ntmps9
  refine wp_seq_k (fun K1 h1 => ?_)
  refine W.region_quiet [(0, false)] (by kernel_rfl) ?_
  refine W.as (v := .bool false) (h := ?_)
  refine W.endF 29 [(0, .string a0), (2, .bool false)] (fun U1 => ?_)
  refine h1 _ _ ?_
  refine wp_seq_k (fun K2 h2 => ?_)
  refine wp_seq_k (fun K3 h3 => ?_)
  refine W.region_quiet [(0, false), (1, false), (2, false)] (by kernel_rfl) ?_
  refine W.mv (v := .string a0) (h := ?_)
  refine W.q (v := .int .i64 ((a0.size : Nat) : Int)) (hr := (r_lenS (s := a0) rfl (by kernel_rfl) (by kernel_rfl))) (h := ?_)
  by_cases q2 : (((a0.size : Nat) : Int) : Int) > (1048576 : Int)
  · refine W.q (v := .bool true) (hr := (r_gtr (m := ((a0.size : Nat) : Int)) (n := 1048576) rfl (by kernel_rfl) (by kernel_rfl) (decide_eq_true q2))) (h := ?_)
    refine W.endF 29 [(0, .string a0), (2, .bool false), (9, .bool true)] (fun U3 => ?_)
    refine h3 _ _ ?_
    refine wp_cond_true (by kernel_rfl) ?_
    refine wp_seq_k (fun K4 h4 => ?_)
    refine W.region_quiet [(0, false)] (by kernel_rfl) ?_
    refine W.as (v := .bool true) (h := ?_)
    refine W.endF 29 [(0, .string a0), (2, .bool true), (9, .bool true)] (fun U4 => ?_)
    refine h4 _ _ ?_
    refine wp_ret ?_
    try simp only [Exit.then]
    refine ret1 (v := .bool true) rfl (by kernel_rfl) ?_
    exact ⟨rfl, (Below.refl _ _)⟩
  · refine W.q (v := .bool false) (hr := (r_gtr (m := ((a0.size : Nat) : Int)) (n := 1048576) rfl (by kernel_rfl) (by kernel_rfl) (decide_eq_false q2))) (h := ?_)
    refine W.endF 29 [(0, .string a0), (2, .bool false), (9, .bool false)] (fun U5 => ?_)
    refine h3 _ _ ?_
    refine wp_cond_false (by kernel_rfl) ?_
    refine wp_skip ?_
    refine h2 _ _ ?_
    refine wp_seq_k (fun K5 h5 => ?_)
    refine W.region_plain (row := none) [(0, false), (1, true), (2, false), (3, false), (4, false), (5, true), (6, true), (7, false)] (by kernel_rfl) ?_
    have s6 := SG.self w none
    refine W.mv (v := .string a0) (h := ?_)
    refine W.sc (vs := [.string a0]) rfl rfl (by kernel_rfl) (by kernel_rfl) (by kernel_rfl) rfl (ParseAmount_spec a0 _ (by omega)) ?_
    rintro e w8 ⟨rfl, b7⟩
    have s9 := SG.of_below s6 b7
    refine ⟨_, rfl, s9, ?_⟩
    refine W.mv (v := .tuple #[.agg #[.int .i64 (ParseAmount_vv a0), .int .i64 (ParseAmount_vu a0)], .bool (ParseAmount_v1 a0)]) (h := ?_)
    refine W.q (v := .agg #[.int .i64 (ParseAmount_vv a0), .int .i64 (ParseAmount_vu a0)]) (hr := (r_extract (vs := #[.agg #[.int .i64 (ParseAmount_vv a0), .int .i64 (ParseAmount_vu a0)], .bool (ParseAmount_v1 a0)]) rfl (by kernel_rfl) (by kernel_rfl))) (h := ?_)
    refine W.q (v := .bool (ParseAmount_v1 a0)) (hr := (r_extract (vs := #[.agg #[.int .i64 (ParseAmount_vv a0), .int .i64 (ParseAmount_vu a0)], .bool (ParseAmount_v1 a0)]) rfl (by kernel_rfl) (by kernel_rfl))) (h := ?_)
    refine W.sn (fun b => .pointer (some ⟨b, 0, none⟩)) #[.int .i64 0, .int .i64 0] 26 s9 rfl (by kernel_rfl) rfl (fun _ => by kernel_rfl) (fun b10 w11 hb12 k13 x14 s15 => ?_)
    have lo16 : w.heap.size ≤ b10 := by have := ((SG.belowR (Below.refl _ _) s9 (fun kq e => by cases e))).size; omega
    refine W.ss (v := .agg #[.int .i64 (ParseAmount_vv a0), .int .i64 (ParseAmount_vu a0)]) (j := 0) (news := [.int .i64 (ParseAmount_vv a0), .int .i64 (ParseAmount_vu a0)]) (cs' := #[.int .i64 (ParseAmount_vv a0), .int .i64 (ParseAmount_vu a0)]) s15 rfl (by kernel_rfl) rfl rfl (by kernel_rfl) (by kernel_rfl) x14 (by kernel_rfl) (by kernel_rfl) (by simp) (by kernel_rfl) (by kernel_rfl) (.inr (by have := (s9).size; have := hb12; omega)) (fun w17 g18 x19 s20 => ?_)
    refine W.as (v := .bool (ParseAmount_v1 a0)) (h := ?_)
    refine W.endF 29 [(0, .string a0), (2, .bool false), (3, .pointer (some ⟨b10, 0, none⟩)), (4, .bool (ParseAmount_v1 a0)), (9, .bool false)] (fun U21 => ?_)
    have c22 := (SG.belowR (Below.refl _ _) s20 (fun kq e => by cases e))
    refine h5 _ _ ?_
    refine wp_seq_k (fun K6 h6 => ?_)
    refine W.region_plain (row := none) [(0, false), (1, true), (2, false), (3, false), (4, false), (5, true), (6, true), (7, false)] (by kernel_rfl) ?_
    have s23 := SG.self w17 none
    refine W.mv (v := .string a0) (h := ?_)
    refine W.sc (vs := [.string a0]) rfl rfl (by kernel_rfl) (by kernel_rfl) (by kernel_rfl) rfl (ParseAmount_impl a0 _ (by omega) (max_kept hmax (SG.belowR c22 s23 (fun kq e => by cases e))) (tab_kept htab (SG.belowR c22 s23 (fun kq e => by cases e))) (names_kept hnm (SG.belowR c22 s23 (fun kq e => by cases e))) (ev_kept hev (SG.belowR c22 s23 (fun kq e => by cases e)))) ?_
    rintro e w25 ⟨rfl, b24⟩
    have s26 := SG.of_below s23 b24
    refine ⟨_, rfl, s26, ?_⟩
    refine W.mv (v := .tuple #[.agg #[.int .i64 (ParseAmount_vv a0), .int .i64 (ParseAmount_vu a0)], .bool (ParseAmount_v1 a0)]) (h := ?_)
    refine W.q (v := .agg #[.int .i64 (ParseAmount_vv a0), .int .i64 (ParseAmount_vu a0)]) (hr := (r_extract (vs := #[.agg #[.int .i64 (ParseAmount_vv a0), .int .i64 (ParseAmount_vu a0)], .bool (ParseAmount_v1 a0)]) rfl (by kernel_rfl) (by kernel_rfl))) (h := ?_)
    refine W.q (v := .bool (ParseAmount_v1 a0)) (hr := (r_extract (vs := #[.agg #[.int .i64 (ParseAmount_vv a0), .int .i64 (ParseAmount_vu a0)], .bool (ParseAmount_v1 a0)]) rfl (by kernel_rfl) (by kernel_rfl))) (h := ?_)
    refine W.sn (fun b => .pointer (some ⟨b, 0, none⟩)) #[.int .i64 0, .int .i64 0] 26 s26 rfl (by kernel_rfl) rfl (fun _ => by kernel_rfl) (fun b27 w28 hb29 k30 x31 s32 => ?_)
    have lo33 : w.heap.size ≤ b27 := by have := ((SG.belowR c22 s26 (fun kq e => by cases e))).size; omega
    have ne34 : b10 ≠ b27 := by have := blk_lt x19; have := (s26).size; omega
    refine W.ss (v := .agg #[.int .i64 (ParseAmount_vv a0), .int .i64 (ParseAmount_vu a0)]) (j := 0) (news := [.int .i64 (ParseAmount_vv a0), .int .i64 (ParseAmount_vu a0)]) (cs' := #[.int .i64 (ParseAmount_vv a0), .int .i64 (ParseAmount_vu a0)]) s32 rfl (by kernel_rfl) rfl rfl (by kernel_rfl) (by kernel_rfl) x31 (by kernel_rfl) (by kernel_rfl) (by simp) (by kernel_rfl) (by kernel_rfl) (.inr (by have := (s26).size; have := hb29; omega)) (fun w35 g36 x37 s38 => ?_)
    refine W.as (v := .bool (ParseAmount_v1 a0)) (h := ?_)
    refine W.endF 29 [(0, .string a0), (2, .bool false), (3, .pointer (some ⟨b10, 0, none⟩)), (4, .bool (ParseAmount_v1 a0)), (5, .pointer (some ⟨b27, 0, none⟩)), (6, .bool (ParseAmount_v1 a0)), (9, .bool false)] (fun U39 => ?_)
    have x19 := SG.blk s38 x19 (by simp)
    have c40 := (SG.belowR c22 s38 (fun kq e => by cases e))
    refine h6 _ _ ?_
    refine wp_seq_k (fun K7 h7 => ?_)
    refine wp_seq_k (fun K8 h8 => ?_)
    refine W.region_plain (row := none) [(0, false), (1, false), (2, true), (3, false), (4, false), (5, false), (6, false), (7, false), (8, false)] (by kernel_rfl) ?_
    have s41 := SG.self w35 none
    refine W.q (v := .agg #[.int .i64 (ParseAmount_vv a0), .int .i64 (ParseAmount_vu a0)]) (hr := (r_load2 rfl (by kernel_rfl) (by kernel_rfl) (by kernel_rfl) (sgS (blk_cell (j := 0) x37 (by kernel_rfl)) (by simp)) (sgS (blk_cell (j := 1) x37 (by kernel_rfl)) (by simp)))) (h := ?_)
    refine W.q (v := .agg #[.int .i64 (ParseAmount_vv a0), .int .i64 (ParseAmount_vu a0)]) (hr := (r_load2 rfl (by kernel_rfl) (by kernel_rfl) (by kernel_rfl) (sgS (blk_cell (j := 0) x19 (by kernel_rfl)) (by simp)) (sgS (blk_cell (j := 1) x19 (by kernel_rfl)) (by simp)))) (h := ?_)
    refine W.sc (vs := [.agg #[.int .i64 (ParseAmount_vv a0), .int .i64 (ParseAmount_vu a0)], .agg #[.int .i64 (ParseAmount_vv a0), .int .i64 (ParseAmount_vu a0)]]) rfl rfl (by kernel_rfl) (by kernel_rfl) (by kernel_rfl) rfl (eqAmount_any (ParseAmount_vv a0) (ParseAmount_vu a0) _) ?_
    rintro e w43 ⟨rfl, b42⟩
    have s44 := SG.of_below s41 b42
    refine ⟨_, rfl, s44, ?_⟩
    refine W.q (v := .bool false) (hr := (r_not (b := true) rfl (by kernel_rfl) rfl)) (h := ?_)
    refine W.mv (v := .bool false) (h := ?_)
    refine W.mv (v := .bool (ParseAmount_v1 a0)) (h := ?_)
    refine W.mv (v := .bool (ParseAmount_v1 a0)) (h := ?_)
    refine W.q (v := .bool false) (hr := (r_neqB (m := (ParseAmount_v1 a0)) (n := (ParseAmount_v1 a0)) rfl (by kernel_rfl) (by kernel_rfl) (by kernel_rfl) (by rw [show ((ParseAmount_v1 a0) == (ParseAmount_v1 a0)) = true from beq_iff_eq.2 rfl]; rfl))) (h := ?_)
    refine W.q (v := .bool false) (hr := (r_pick (b := false) rfl (by kernel_rfl) (by kernel_rfl))) (h := ?_)
    refine W.endF 29 [(0, .string a0), (2, .bool false), (3, .pointer (some ⟨b10, 0, none⟩)), (4, .bool (ParseAmount_v1 a0)), (5, .pointer (some ⟨b27, 0, none⟩)), (6, .bool (ParseAmount_v1 a0)), (9, .bool false), (28, .bool false)] (fun U45 => ?_)
    have x19 := SG.blk s44 x19 (by simp)
    have x37 := SG.blk s44 x37 (by simp)
    have c46 := (SG.belowR c40 s44 (fun kq e => by cases e))
    refine h8 _ _ ?_
    refine wp_cond_false (by kernel_rfl) ?_
    refine wp_skip ?_
    refine h7 _ _ ?_
    refine wp_seq_k (fun K9 h9 => ?_)
    refine W.region_quiet [(0, false)] (by kernel_rfl) ?_
    refine W.as (v := .bool true) (h := ?_)
    refine W.endF 29 [(0, .string a0), (2, .bool true), (3, .pointer (some ⟨b10, 0, none⟩)), (4, .bool (ParseAmount_v1 a0)), (5, .pointer (some ⟨b27, 0, none⟩)), (6, .bool (ParseAmount_v1 a0)), (9, .bool false), (28, .bool false)] (fun U47 => ?_)
    refine h9 _ _ ?_
    refine wp_ret ?_
    try simp only [Exit.then]
    refine ret1 (v := .bool true) rfl (by kernel_rfl) ?_
    exact ⟨rfl, c46⟩

end Go.Proofs.YtlkphjlabmnjiaaDoor
