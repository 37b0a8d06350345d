/- The walk of the law FnExactDecimalText. -/
import Derived.Test.YtlkphjlabmnjiaaDoorDec
namespace Go.Proofs.YtlkphjlabmnjiaaDoor
open Go.RowKit
set_option linter.unusedVariables false
set_option linter.unusedSimpArgs false

set_option maxRecDepth 100000 in
set_option maxHeartbeats 1000000 in
theorem w_FnExactDecimalText (a0 : Int) (k0 : wf64 a0) (a1 : Int) (k1 : wf64 a1) (a2 : Int) (k2 : wf64 a2) (w : World) (htab : Lib.TabIs Tryd.prog w "internal/strconv.uint64pow10" .u64 Lib.pow10Tab) :
    Calls Tryd.prog 8 #[.int .i64 a0, .int .i64 a1, .int .i64 a2] w fun e w' => e = .returned (.bool true) ∧ Below w.heap.size w w' := by
  go_enter Tryd.func8, Tryd.ntmps8
  refine wp_seq_k (fun K1 h1 => ?_)
  refine W.region_quiet [(0, false)] (by kernel_rfl) ?_
  refine W.as (v := .bool false) (h := ?_)
  refine W.endF 33 [(0, .int .i64 a0), (1, .int .i64 a1), (2, .int .i64 a2), (6, .bool false)] (fun U1 => ?_)
  refine h1 _ _ ?_
  refine wp_seq_k (fun K2 h2 => ?_)
  refine W.region_plain (row := none) [(0, false), (1, false), (2, false), (3, true), (4, false), (5, false), (6, false), (7, false), (8, false)] (by kernel_rfl) ?_
  have s2 := SG.self w none
  refine W.mv (v := .int .i64 a0) (h := ?_)
  refine W.mv (v := .int .i64 a1) (h := ?_)
  refine W.mv (v := .int .i64 a2) (h := ?_)
  refine W.sc (vs := [.int .i64 a0, .int .i64 a1, .int .i64 a2]) rfl rfl (by kernel_rfl) (by kernel_rfl) (by kernel_rfl) rfl (DecimalText_spec a0 a1 a2 _) ?_
  rintro e w4 ⟨rfl, b3⟩
  have s5 := SG.of_below s2 b3
  refine ⟨_, rfl, s5, ?_⟩
  refine W.mv (v := .tuple #[.string (DecimalText_v0 a0 a1 a2), .bool (DecimalText_v1 a0 a1 a2)]) (h := ?_)
  refine W.q (v := .string (DecimalText_v0 a0 a1 a2)) (hr := (r_extract (vs := #[.string (DecimalText_v0 a0 a1 a2), .bool (DecimalText_v1 a0 a1 a2)]) rfl (by kernel_rfl) (by kernel_rfl))) (h := ?_)
  refine W.q (v := .bool (DecimalText_v1 a0 a1 a2)) (hr := (r_extract (vs := #[.string (DecimalText_v0 a0 a1 a2), .bool (DecimalText_v1 a0 a1 a2)]) rfl (by kernel_rfl) (by kernel_rfl))) (h := ?_)
  refine W.as (v := .string (DecimalText_v0 a0 a1 a2)) (h := ?_)
  refine W.as (v := .bool (DecimalText_v1 a0 a1 a2)) (h := ?_)
  refine W.endF 33 [(0, .int .i64 a0), (1, .int .i64 a1), (2, .int .i64 a2), (6, .bool false), (7, .string (DecimalText_v0 a0 a1 a2)), (8, .bool (DecimalText_v1 a0 a1 a2))] (fun U6 => ?_)
  have c7 := (SG.belowR (Below.refl _ _) s5 (fun kq e => by cases e))
  refine h2 _ _ ?_
  refine wp_seq_k (fun K3 h3 => ?_)
  refine W.region_plain (row := none) [(0, false), (1, false), (2, false), (3, true), (4, false), (5, false), (6, false), (7, false), (8, false)] (by kernel_rfl) ?_
  have s8 := SG.self w4 none
  refine W.mv (v := .int .i64 a0) (h := ?_)
  refine W.mv (v := .int .i64 a1) (h := ?_)
  refine W.mv (v := .int .i64 a2) (h := ?_)
  refine W.sc (vs := [.int .i64 a0, .int .i64 a1, .int .i64 a2]) rfl rfl (by kernel_rfl) (by kernel_rfl) (by kernel_rfl) rfl (DecimalText_impl a0 a1 a2 _ (tab_kept htab (SG.belowR c7 s8 (fun kq e => by cases e)))) ?_
  rintro e w10 ⟨rfl, b9⟩
  have s11 := SG.of_below s8 b9
  refine ⟨_, rfl, s11, ?_⟩
  refine W.mv (v := .tuple #[.string (DecimalText_v0 a0 a1 a2), .bool (DecimalText_v1 a0 a1 a2)]) (h := ?_)
  refine W.q (v := .string (DecimalText_v0 a0 a1 a2)) (hr := (r_extract (vs := #[.string (DecimalText_v0 a0 a1 a2), .bool (DecimalText_v1 a0 a1 a2)]) rfl (by kernel_rfl) (by kernel_rfl))) (h := ?_)
  refine W.q (v := .bool (DecimalText_v1 a0 a1 a2)) (hr := (r_extract (vs := #[.string (DecimalText_v0 a0 a1 a2), .bool (DecimalText_v1 a0 a1 a2)]) rfl (by kernel_rfl) (by kernel_rfl))) (h := ?_)
  refine W.as (v := .string (DecimalText_v0 a0 a1 a2)) (h := ?_)
  refine W.as (v := .bool (DecimalText_v1 a0 a1 a2)) (h := ?_)
  refine W.endF 33 [(0, .int .i64 a0), (1, .int .i64 a1), (2, .int .i64 a2), (6, .bool false), (7, .string (DecimalText_v0 a0 a1 a2)), (8, .bool (DecimalText_v1 a0 a1 a2)), (9, .string (DecimalText_v0 a0 a1 a2)), (10, .bool (DecimalText_v1 a0 a1 a2))] (fun U12 => ?_)
  have c13 := (SG.belowR c7 s11 (fun kq e => by cases e))
  refine h3 _ _ ?_
  refine wp_seq_k (fun K4 h4 => ?_)
  refine wp_seq_k (fun K5 h5 => ?_)
  refine W.region_quiet [(0, false), (1, false), (2, false), (3, false), (4, false), (5, false), (6, false), (7, false)] (by kernel_rfl) ?_
  refine W.mv (v := .string (DecimalText_v0 a0 a1 a2)) (h := ?_)
  refine W.mv (v := .string (DecimalText_v0 a0 a1 a2)) (h := ?_)
  refine W.q (v := .bool false) (hr := (r_neqS (s := (DecimalText_v0 a0 a1 a2)) (r := (DecimalText_v0 a0 a1 a2)) rfl (by kernel_rfl) (by kernel_rfl) (by rw [decide_eq_true rfl]; rfl))) (h := ?_)
  refine W.mv (v := .bool false) (h := ?_)
  refine W.mv (v := .bool (DecimalText_v1 a0 a1 a2)) (h := ?_)
  refine W.mv (v := .bool (DecimalText_v1 a0 a1 a2)) (h := ?_)
  refine W.q (v := .bool false) (hr := (r_neqB (m := (DecimalText_v1 a0 a1 a2)) (n := (DecimalText_v1 a0 a1 a2)) rfl (by kernel_rfl) (by kernel_rfl) (by kernel_rfl) (by rw [show ((DecimalText_v1 a0 a1 a2) == (DecimalText_v1 a0 a1 a2)) = true from beq_iff_eq.2 rfl]; rfl))) (h := ?_)
  refine W.q (v := .bool false) (hr := (r_pick (b := false) rfl (by kernel_rfl) (by kernel_rfl))) (h := ?_)
  refine W.endF 33 [(0, .int .i64 a0), (1, .int .i64 a1), (2, .int .i64 a2), (6, .bool false), (7, .string (DecimalText_v0 a0 a1 a2)), (8, .bool (DecimalText_v1 a0 a1 a2)), (9, .string (DecimalText_v0 a0 a1 a2)), (10, .bool (DecimalText_v1 a0 a1 a2)), (32, .bool false)] (fun U14 => ?_)
  refine h5 _ _ ?_
  refine wp_cond_false (by kernel_rfl) ?_
  refine wp_skip ?_
  refine h4 _ _ ?_
  refine wp_seq_k (fun K6 h6 => ?_)
  refine W.region_quiet [(0, false)] (by kernel_rfl) ?_
  refine W.as (v := .bool true) (h := ?_)
  refine W.endF 33 [(0, .int .i64 a0), (1, .int .i64 a1), (2, .int .i64 a2), (6, .bool true), (7, .string (DecimalText_v0 a0 a1 a2)), (8, .bool (DecimalText_v1 a0 a1 a2)), (9, .string (DecimalText_v0 a0 a1 a2)), (10, .bool (DecimalText_v1 a0 a1 a2)), (32, .bool false)] (fun U15 => ?_)
  refine h6 _ _ ?_
  refine wp_ret ?_
  try simp only [Exit.then]
  refine ret1 (v := .bool true) rfl (by kernel_rfl) ?_
  exact ⟨rfl, c13⟩

end Go.Proofs.YtlkphjlabmnjiaaDoor
