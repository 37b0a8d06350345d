/- The walk of the law FnExactVerifyChecksum. -/
import Derived.Test.YtgpallafdmjbdaaDoorChk
namespace Go.Proofs.YtgpallafdmjbdaaDoor
open Go.RowKit
set_option linter.unusedVariables false
set_option linter.unusedSimpArgs false

set_option maxRecDepth 100000 in
set_option maxHeartbeats 1000000 in
theorem w_FnExactVerifyChecksum (a0 : ByteArray) (k0 : a0.size ≤ maxLen) (w : World) (htab : Lib.TabIs Tryd.prog w "internal/strconv.uint64pow10" .u64 Lib.pow10Tab) (hmax : MaxIs w) :
    Calls Tryd.prog 5 #[.string a0] w fun e w' => e = .returned (.bool true) ∧ Below w.heap.size w w' := by
  unfold maxLen at k0
  go_enter Tryd.func5, Tryd.ntmps5
  refine wp_seq_k (fun K1 h1 => ?_)
  refine W.region_quiet [(0, false)] (by kernel_rfl) ?_
  refine W.as (v := .bool false) (h := ?_)
  refine W.endF 28 [(0, .string a0), (2, .bool false)] (fun U1 => ?_)
  refine h1 _ _ ?_
  refine wp_seq_k (fun K2 h2 => ?_)
  refine wp_seq_k (fun K3 h3 => ?_)
  refine W.region_quiet [(0, false), (1, false), (2, false)] (by kernel_rfl) ?_
  refine W.mv (v := .string a0) (h := ?_)
  refine W.q (v := .int .i64 ((a0.size : Nat) : Int)) (hr := (r_lenS (s := a0) rfl (by kernel_rfl) (by kernel_rfl))) (h := ?_)
  by_cases q2 : (((a0.size : Nat) : Int) : Int) > (1048576 : Int)
  · refine W.q (v := .bool true) (hr := (r_gtr (m := ((a0.size : Nat) : Int)) (n := 1048576) rfl (by kernel_rfl) (by kernel_rfl) (decide_eq_true q2))) (h := ?_)
    refine W.endF 28 [(0, .string a0), (2, .bool false), (9, .bool true)] (fun U3 => ?_)
    refine h3 _ _ ?_
    refine wp_cond_true (by kernel_rfl) ?_
    refine wp_seq_k (fun K4 h4 => ?_)
    refine W.region_quiet [(0, false)] (by kernel_rfl) ?_
    refine W.as (v := .bool true) (h := ?_)
    refine W.endF 28 [(0, .string a0), (2, .bool true), (9, .bool true)] (fun U4 => ?_)
    refine h4 _ _ ?_
    refine wp_ret ?_
    try simp only [Exit.then]
    refine ret1 (v := .bool true) rfl (by kernel_rfl) ?_
    exact ⟨rfl, (Below.refl _ _)⟩
  · refine W.q (v := .bool false) (hr := (r_gtr (m := ((a0.size : Nat) : Int)) (n := 1048576) rfl (by kernel_rfl) (by kernel_rfl) (decide_eq_false q2))) (h := ?_)
    refine W.endF 28 [(0, .string a0), (2, .bool false), (9, .bool false)] (fun U5 => ?_)
    refine h3 _ _ ?_
    refine wp_cond_false (by kernel_rfl) ?_
    refine wp_skip ?_
    refine h2 _ _ ?_
    refine wp_seq_k (fun K5 h5 => ?_)
    refine W.region_plain (row := none) [(0, false), (1, true), (2, false), (3, false), (4, false), (5, false), (6, false)] (by kernel_rfl) ?_
    have s6 := SG.self w none
    refine W.mv (v := .string a0) (h := ?_)
    refine W.sc (vs := [.string a0]) rfl rfl (by kernel_rfl) (by kernel_rfl) (by kernel_rfl) rfl (VerifyChecksum_spec a0 _ (by omega)) ?_
    rintro e w8 ⟨rfl, b7⟩
    have s9 := SG.of_below s6 b7
    refine ⟨_, rfl, s9, ?_⟩
    refine W.mv (v := .tuple #[.string (VerifyChecksum_v0 a0), .bool (VerifyChecksum_v1 a0)]) (h := ?_)
    refine W.q (v := .string (VerifyChecksum_v0 a0)) (hr := (r_extract (vs := #[.string (VerifyChecksum_v0 a0), .bool (VerifyChecksum_v1 a0)]) rfl (by kernel_rfl) (by kernel_rfl))) (h := ?_)
    refine W.q (v := .bool (VerifyChecksum_v1 a0)) (hr := (r_extract (vs := #[.string (VerifyChecksum_v0 a0), .bool (VerifyChecksum_v1 a0)]) rfl (by kernel_rfl) (by kernel_rfl))) (h := ?_)
    refine W.as (v := .string (VerifyChecksum_v0 a0)) (h := ?_)
    refine W.as (v := .bool (VerifyChecksum_v1 a0)) (h := ?_)
    refine W.endF 28 [(0, .string a0), (2, .bool false), (3, .string (VerifyChecksum_v0 a0)), (4, .bool (VerifyChecksum_v1 a0)), (9, .bool false)] (fun U10 => ?_)
    have c11 := (SG.belowR (Below.refl _ _) s9 (fun kq e => by cases e))
    refine h5 _ _ ?_
    refine wp_seq_k (fun K6 h6 => ?_)
    refine W.region_plain (row := none) [(0, false), (1, true), (2, false), (3, false), (4, false), (5, false), (6, false)] (by kernel_rfl) ?_
    have s12 := SG.self w8 none
    refine W.mv (v := .string a0) (h := ?_)
    refine W.sc (vs := [.string a0]) rfl rfl (by kernel_rfl) (by kernel_rfl) (by kernel_rfl) rfl (VerifyChecksum_impl a0 _ (by omega) (tab_kept htab (SG.belowR c11 s12 (fun kq e => by cases e))) (max_kept hmax (SG.belowR c11 s12 (fun kq e => by cases e)))) ?_
    rintro e w14 ⟨rfl, b13⟩
    have s15 := SG.of_below s12 b13
    refine ⟨_, rfl, s15, ?_⟩
    refine W.mv (v := .tuple #[.string (VerifyChecksum_v0 a0), .bool (VerifyChecksum_v1 a0)]) (h := ?_)
    refine W.q (v := .string (VerifyChecksum_v0 a0)) (hr := (r_extract (vs := #[.string (VerifyChecksum_v0 a0), .bool (VerifyChecksum_v1 a0)]) rfl (by kernel_rfl) (by kernel_rfl))) (h := ?_)
    refine W.q (v := .bool (VerifyChecksum_v1 a0)) (hr := (r_extract (vs := #[.string (VerifyChecksum_v0 a0), .bool (VerifyChecksum_v1 a0)]) rfl (by kernel_rfl) (by kernel_rfl))) (h := ?_)
    refine W.as (v := .string (VerifyChecksum_v0 a0)) (h := ?_)
    refine W.as (v := .bool (VerifyChecksum_v1 a0)) (h := ?_)
    refine W.endF 28 [(0, .string a0), (2, .bool false), (3, .string (VerifyChecksum_v0 a0)), (4, .bool (VerifyChecksum_v1 a0)), (5, .string (VerifyChecksum_v0 a0)), (6, .bool (VerifyChecksum_v1 a0)), (9, .bool false)] (fun U16 => ?_)
    have c17 := (SG.belowR c11 s15 (fun kq e => by cases e))
    refine h6 _ _ ?_
    refine wp_seq_k (fun K7 h7 => ?_)
    refine wp_seq_k (fun K8 h8 => ?_)
    refine W.region_quiet [(0, false), (1, false), (2, false), (3, false), (4, false), (5, false), (6, false), (7, false)] (by kernel_rfl) ?_
    refine W.mv (v := .string (VerifyChecksum_v0 a0)) (h := ?_)
    refine W.mv (v := .string (VerifyChecksum_v0 a0)) (h := ?_)
    refine W.q (v := .bool false) (hr := (r_neqS (s := (VerifyChecksum_v0 a0)) (r := (VerifyChecksum_v0 a0)) rfl (by kernel_rfl) (by kernel_rfl) (by rw [decide_eq_true rfl]; rfl))) (h := ?_)
    refine W.mv (v := .bool false) (h := ?_)
    refine W.mv (v := .bool (VerifyChecksum_v1 a0)) (h := ?_)
    refine W.mv (v := .bool (VerifyChecksum_v1 a0)) (h := ?_)
    refine W.q (v := .bool false) (hr := (r_neqB (m := (VerifyChecksum_v1 a0)) (n := (VerifyChecksum_v1 a0)) rfl (by kernel_rfl) (by kernel_rfl) (by kernel_rfl) (by rw [show ((VerifyChecksum_v1 a0) == (VerifyChecksum_v1 a0)) = true from beq_iff_eq.2 rfl]; rfl))) (h := ?_)
    refine W.q (v := .bool false) (hr := (r_pick (b := false) rfl (by kernel_rfl) (by kernel_rfl))) (h := ?_)
    refine W.endF 28 [(0, .string a0), (2, .bool false), (3, .string (VerifyChecksum_v0 a0)), (4, .bool (VerifyChecksum_v1 a0)), (5, .string (VerifyChecksum_v0 a0)), (6, .bool (VerifyChecksum_v1 a0)), (9, .bool false), (27, .bool false)] (fun U18 => ?_)
    refine h8 _ _ ?_
    refine wp_cond_false (by kernel_rfl) ?_
    refine wp_skip ?_
    refine h7 _ _ ?_
    refine wp_seq_k (fun K9 h9 => ?_)
    refine W.region_quiet [(0, false)] (by kernel_rfl) ?_
    refine W.as (v := .bool true) (h := ?_)
    refine W.endF 28 [(0, .string a0), (2, .bool true), (3, .string (VerifyChecksum_v0 a0)), (4, .bool (VerifyChecksum_v1 a0)), (5, .string (VerifyChecksum_v0 a0)), (6, .bool (VerifyChecksum_v1 a0)), (9, .bool false), (27, .bool false)] (fun U19 => ?_)
    refine h9 _ _ ?_
    refine wp_ret ?_
    try simp only [Exit.then]
    refine ret1 (v := .bool true) rfl (by kernel_rfl) ?_
    exact ⟨rfl, c17⟩

end Go.Proofs.YtgpallafdmjbdaaDoor
