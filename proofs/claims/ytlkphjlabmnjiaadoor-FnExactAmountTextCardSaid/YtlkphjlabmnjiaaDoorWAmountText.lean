/- The walk of the law FnExactAmountText. -/
import Derived.Test.YtlkphjlabmnjiaaDoorAmtI
import Derived.Test.YtlkphjlabmnjiaaDoorNames
namespace Go.Proofs.YtlkphjlabmnjiaaDoor
open Go.RowKit
set_option linter.unusedVariables false
set_option linter.unusedSimpArgs false

set_option maxRecDepth 100000 in
set_option maxHeartbeats 1000000 in
theorem w_FnExactAmountText (a0 b0 : Int) (k0 : wf64 a0 ∧ wf64 b0) (w : World) (htab : Lib.TabIs Tryd.prog w "internal/strconv.uint64pow10" .u64 Lib.pow10Tab) (hnm : Names w) :
    Calls Tryd.prog 7 #[.agg #[.int .i64 a0, .int .i64 b0]] w fun e w' => e = .returned (.bool true) ∧ Below w.heap.size w w' := by
  go_enter Tryd.func7, Tryd.ntmps7
  refine wp_seq_k (fun K1 h1 => ?_)
  refine W.region_plain (row := none) [(0, true), (1, false)] (by kernel_rfl) ?_
  have s1 := SG.self w none
  refine W.sn (fun b => .pointer (some ⟨b, 0, none⟩)) #[.int .i64 a0, .int .i64 b0] 23 s1 rfl (by kernel_rfl) rfl (fun _ => by kernel_rfl) (fun b2 w3 hb4 k5 x6 s7 => ?_)
  have lo8 : w.heap.size ≤ b2 := by have := ((SG.belowR (Below.refl _ _) s1 (fun kq e => by cases e))).size; omega
  refine W.as (v := .bool false) (h := ?_)
  refine W.endF 27 [(0, .agg #[.int .i64 a0, .int .i64 b0]), (1, .pointer (some ⟨b2, 0, none⟩)), (2, .bool false)] (fun U9 => ?_)
  have c10 := (SG.belowR (Below.refl _ _) s7 (fun kq e => by cases e))
  refine h1 _ _ ?_
  refine wp_seq_k (fun K2 h2 => ?_)
  refine W.region_plain (row := none) [(0, false), (1, true), (2, true), (3, false), (4, false), (5, false), (6, false), (7, false)] (by kernel_rfl) ?_
  have s11 := SG.self w3 none
  refine W.q (v := .agg #[.int .i64 a0, .int .i64 b0]) (hr := (r_load2 rfl (by kernel_rfl) (by kernel_rfl) (by kernel_rfl) (sgS (blk_cell (j := 0) x6 (by kernel_rfl)) (by simp)) (sgS (blk_cell (j := 1) x6 (by kernel_rfl)) (by simp)))) (h := ?_)
  refine W.sc (vs := [.agg #[.int .i64 a0, .int .i64 b0]]) rfl rfl (by kernel_rfl) (by kernel_rfl) (by kernel_rfl) rfl (toAmount_any a0 b0 _) ?_
  rintro e w13 ⟨rfl, b12⟩
  have s14 := SG.of_below s11 b12
  refine ⟨_, rfl, s14, ?_⟩
  refine W.sc (vs := [.agg #[.int .i64 a0, .int .i64 b0]]) rfl rfl (by kernel_rfl) (by kernel_rfl) (by kernel_rfl) rfl (AmountText_spec a0 b0 _) ?_
  rintro e w16 ⟨rfl, b15⟩
  have s17 := SG.of_below s14 b15
  refine ⟨_, rfl, s17, ?_⟩
  refine W.mv (v := .tuple #[.string (AmountText_v0 a0 b0), .bool (AmountText_v1 a0 b0)]) (h := ?_)
  refine W.q (v := .string (AmountText_v0 a0 b0)) (hr := (r_extract (vs := #[.string (AmountText_v0 a0 b0), .bool (AmountText_v1 a0 b0)]) rfl (by kernel_rfl) (by kernel_rfl))) (h := ?_)
  refine W.q (v := .bool (AmountText_v1 a0 b0)) (hr := (r_extract (vs := #[.string (AmountText_v0 a0 b0), .bool (AmountText_v1 a0 b0)]) rfl (by kernel_rfl) (by kernel_rfl))) (h := ?_)
  refine W.as (v := .string (AmountText_v0 a0 b0)) (h := ?_)
  refine W.as (v := .bool (AmountText_v1 a0 b0)) (h := ?_)
  refine W.endF 27 [(0, .agg #[.int .i64 a0, .int .i64 b0]), (1, .pointer (some ⟨b2, 0, none⟩)), (2, .bool false), (3, .string (AmountText_v0 a0 b0)), (4, .bool (AmountText_v1 a0 b0))] (fun U18 => ?_)
  have x6 := SG.blk s17 x6 (by simp)
  have c19 := (SG.belowR c10 s17 (fun kq e => by cases e))
  refine h2 _ _ ?_
  refine wp_seq_k (fun K3 h3 => ?_)
  refine W.region_plain (row := none) [(0, false), (1, true), (2, true), (3, false), (4, false), (5, false), (6, false), (7, false)] (by kernel_rfl) ?_
  have s20 := SG.self w16 none
  refine W.q (v := .agg #[.int .i64 a0, .int .i64 b0]) (hr := (r_load2 rfl (by kernel_rfl) (by kernel_rfl) (by kernel_rfl) (sgS (blk_cell (j := 0) x6 (by kernel_rfl)) (by simp)) (sgS (blk_cell (j := 1) x6 (by kernel_rfl)) (by simp)))) (h := ?_)
  refine W.sc (vs := [.agg #[.int .i64 a0, .int .i64 b0]]) rfl rfl (by kernel_rfl) (by kernel_rfl) (by kernel_rfl) rfl (toAmount_any a0 b0 _) ?_
  rintro e w22 ⟨rfl, b21⟩
  have s23 := SG.of_below s20 b21
  refine ⟨_, rfl, s23, ?_⟩
  refine W.sc (vs := [.agg #[.int .i64 a0, .int .i64 b0]]) rfl rfl (by kernel_rfl) (by kernel_rfl) (by kernel_rfl) rfl (AmountText_impl a0 b0 _ (tab_kept htab (SG.belowR c19 s23 (fun kq e => by cases e))) (names_kept hnm (SG.belowR c19 s23 (fun kq e => by cases e)))) ?_
  rintro e w25 ⟨rfl, b24⟩
  have s26 := SG.of_below s23 b24
  refine ⟨_, rfl, s26, ?_⟩
  refine W.mv (v := .tuple #[.string (AmountText_v0 a0 b0), .bool (AmountText_v1 a0 b0)]) (h := ?_)
  refine W.q (v := .string (AmountText_v0 a0 b0)) (hr := (r_extract (vs := #[.string (AmountText_v0 a0 b0), .bool (AmountText_v1 a0 b0)]) rfl (by kernel_rfl) (by kernel_rfl))) (h := ?_)
  refine W.q (v := .bool (AmountText_v1 a0 b0)) (hr := (r_extract (vs := #[.string (AmountText_v0 a0 b0), .bool (AmountText_v1 a0 b0)]) rfl (by kernel_rfl) (by kernel_rfl))) (h := ?_)
  refine W.as (v := .string (AmountText_v0 a0 b0)) (h := ?_)
  refine W.as (v := .bool (AmountText_v1 a0 b0)) (h := ?_)
  refine W.endF 27 [(0, .agg #[.int .i64 a0, .int .i64 b0]), (1, .pointer (some ⟨b2, 0, none⟩)), (2, .bool false), (3, .string (AmountText_v0 a0 b0)), (4, .bool (AmountText_v1 a0 b0)), (5, .string (AmountText_v0 a0 b0)), (6, .bool (AmountText_v1 a0 b0))] (fun U27 => ?_)
  have x6 := SG.blk s26 x6 (by simp)
  have c28 := (SG.belowR c19 s26 (fun kq e => by cases e))
  refine h3 _ _ ?_
  refine wp_seq_k (fun K4 h4 => ?_)
  refine wp_seq_k (fun K5 h5 => ?_)
  refine W.region_quiet [(0, false), (1, false), (2, false), (3, false), (4, false), (5, false), (6, false), (7, false)] (by kernel_rfl) ?_
  refine W.mv (v := .string (AmountText_v0 a0 b0)) (h := ?_)
  refine W.mv (v := .string (AmountText_v0 a0 b0)) (h := ?_)
  refine W.q (v := .bool false) (hr := (r_neqS (s := (AmountText_v0 a0 b0)) (r := (AmountText_v0 a0 b0)) rfl (by kernel_rfl) (by kernel_rfl) (by rw [decide_eq_true rfl]; rfl))) (h := ?_)
  refine W.mv (v := .bool false) (h := ?_)
  refine W.mv (v := .bool (AmountText_v1 a0 b0)) (h := ?_)
  refine W.mv (v := .bool (AmountText_v1 a0 b0)) (h := ?_)
  refine W.q (v := .bool false) (hr := (r_neqB (m := (AmountText_v1 a0 b0)) (n := (AmountText_v1 a0 b0)) rfl (by kernel_rfl) (by kernel_rfl) (by kernel_rfl) (by rw [show ((AmountText_v1 a0 b0) == (AmountText_v1 a0 b0)) = true from beq_iff_eq.2 rfl]; rfl))) (h := ?_)
  refine W.q (v := .bool false) (hr := (r_pick (b := false) rfl (by kernel_rfl) (by kernel_rfl))) (h := ?_)
  refine W.endF 27 [(0, .agg #[.int .i64 a0, .int .i64 b0]), (1, .pointer (some ⟨b2, 0, none⟩)), (2, .bool false), (3, .string (AmountText_v0 a0 b0)), (4, .bool (AmountText_v1 a0 b0)), (5, .string (AmountText_v0 a0 b0)), (6, .bool (AmountText_v1 a0 b0)), (26, .bool false)] (fun U29 => ?_)
  refine h5 _ _ ?_
  refine wp_cond_false (by kernel_rfl) ?_
  refine wp_skip ?_
  refine h4 _ _ ?_
  refine wp_seq_k (fun K6 h6 => ?_)
  refine W.region_quiet [(0, false)] (by kernel_rfl) ?_
  refine W.as (v := .bool true) (h := ?_)
  refine W.endF 27 [(0, .agg #[.int .i64 a0, .int .i64 b0]), (1, .pointer (some ⟨b2, 0, none⟩)), (2, .bool true), (3, .string (AmountText_v0 a0 b0)), (4, .bool (AmountText_v1 a0 b0)), (5, .string (AmountText_v0 a0 b0)), (6, .bool (AmountText_v1 a0 b0)), (26, .bool false)] (fun U30 => ?_)
  refine h6 _ _ ?_
  refine wp_ret ?_
  try simp only [Exit.then]
  refine ret1 (v := .bool true) rfl (by kernel_rfl) ?_
  exact ⟨rfl, c28⟩

end Go.Proofs.YtlkphjlabmnjiaaDoor
