/- The walk of the law FnExactNetworkText. -/
import Derived.Test.YtmfapokolgnnhaaDoorNTxt
import Derived.Test.YtmfapokolgnnhaaDoorNetH
import Derived.Test.YtmfapokolgnnhaaDoorRows
namespace Go.Proofs.YtmfapokolgnnhaaDoor
open Go.RowKit
set_option linter.unusedVariables false
set_option linter.unusedSimpArgs false

theorem szL_ok {left : Int} {n : Nat} (h : ¬ (szL left n : Int) < 0) : (n : Int) ≤ left := by
  by_cases h1 : (n : Int) ≤ left
  · exact h1
  · exact absurd (by rw [szL_neg h1]; decide) h

set_option maxRecDepth 100000 in
set_option maxHeartbeats 1000000 in
theorem w_FnExactNetworkText (m0 : Int) (x0 : Option Addr) (n0 p0 : Nat) (a0 : List Pp) (w : World) (H0 : wf64 m0 ∧ a0.length = n0 ∧ Rd w 4 x0 n0 (pipesV a0) ∧ n0 ≤ maxLen ∧ ∀ p ∈ a0, p.wf) (htab : Lib.TabIs Tryd.prog w "internal/strconv.uint64pow10" .u64 Lib.pow10Tab) :
    Calls Tryd.prog 3 #[.agg #[.int .i64 m0, .slice x0 n0 p0]] w fun e w' => e = .returned (.bool true) ∧ Below w.heap.size w w' := by
  obtain ⟨_, _, h0, z0, _⟩ := H0
  unfold maxLen at z0
  have hl0 := rd_pipes_len h0
  go_enter Tryd.func3, Tryd.ntmps3
  refine wp_seq_k (fun K1 h1 => ?_)
  refine W.region_plain (row := none) [(0, true), (1, false)] (by kernel_rfl) ?_
  have s1 := SG.self w none
  refine W.sn (fun b => .pointer (some ⟨b, 0, none⟩)) #[.int .i64 m0, .slice x0 n0 p0] 24 s1 rfl (by kernel_rfl) rfl (fun _ => by kernel_rfl) (fun b2 w3 hb4 k5 x6 s7 => ?_)
  have lo8 : w.heap.size ≤ b2 := by have := ((SG.belowR (Below.refl _ _) s1 (fun kq e => by cases e))).size; omega
  refine W.as (v := .bool false) (h := ?_)
  refine W.endF 40 [(0, .agg #[.int .i64 m0, .slice x0 n0 p0]), (1, .pointer (some ⟨b2, 0, none⟩)), (2, .bool false)] (fun U9 => ?_)
  have c10 := (SG.belowR (Below.refl _ _) s7 (fun kq e => by cases e))
  refine h1 _ _ ?_
  refine wp_seq_k (fun K2 h2 => ?_)
  refine W.region_quiet [(0, false)] (by kernel_rfl) ?_
  refine W.as (v := .int .i64 1048576) (h := ?_)
  refine W.endF 40 [(0, .agg #[.int .i64 m0, .slice x0 n0 p0]), (1, .pointer (some ⟨b2, 0, none⟩)), (2, .bool false), (3, .int .i64 1048576)] (fun U11 => ?_)
  refine h2 _ _ ?_
  refine wp_seq_k (fun K3 h3 => ?_)
  refine W.region_plain (row := none) [(0, false), (1, false), (2, true), (3, false)] (by kernel_rfl) ?_
  have s12 := SG.self w3 none
  refine W.q (v := .agg #[.int .i64 m0, .slice x0 n0 p0]) (hr := (r_load2 rfl (by kernel_rfl) (by kernel_rfl) (by kernel_rfl) (sgS (blk_cell (j := 0) x6 (by kernel_rfl)) (by simp)) (sgS (blk_cell (j := 1) x6 (by kernel_rfl)) (by simp)))) (h := ?_)
  refine W.mv (v := .int .i64 1048576) (h := ?_)
  refine W.sc (vs := [.agg #[.int .i64 m0, .slice x0 n0 p0], .int .i64 1048576]) rfl rfl (by kernel_rfl) (by kernel_rfl) (by kernel_rfl) rfl (szNetwork_any m0 x0 n0 p0 a0 1048576 _ (Rd.kept h0 (SG.belowR c10 s12 (fun kq e => by cases e))) (by omega) (by omega) (by omega)) ?_
  rintro e w14 ⟨rfl, b13⟩
  have s15 := SG.of_below s12 b13
  refine ⟨_, rfl, s15, ?_⟩
  refine W.as (v := .int .i64 (szL 1048576 n0)) (h := ?_)
  refine W.endF 40 [(0, .agg #[.int .i64 m0, .slice x0 n0 p0]), (1, .pointer (some ⟨b2, 0, none⟩)), (2, .bool false), (3, .int .i64 (szL 1048576 n0))] (fun U16 => ?_)
  have x6 := SG.blk s15 x6 (by simp)
  have c17 := (SG.belowR c10 s15 (fun kq e => by cases e))
  refine h3 _ _ ?_
  refine wp_seq_k (fun K4 h4 => ?_)
  refine wp_seq_k (fun K5 h5 => ?_)
  refine W.region_quiet [(0, false), (1, false)] (by kernel_rfl) ?_
  refine W.mv (v := .int .i64 (szL 1048576 n0)) (h := ?_)
  by_cases q18 : ((szL 1048576 n0) : Int) < (0 : Int)
  · refine W.q (v := .bool true) (hr := (r_lss (m := (szL 1048576 n0)) (n := 0) rfl (by kernel_rfl) (by kernel_rfl) (decide_eq_true q18))) (h := ?_)
    refine W.endF 40 [(0, .agg #[.int .i64 m0, .slice x0 n0 p0]), (1, .pointer (some ⟨b2, 0, none⟩)), (2, .bool false), (3, .int .i64 (szL 1048576 n0)), (13, .bool true)] (fun U19 => ?_)
    refine h5 _ _ ?_
    refine wp_cond_true (by kernel_rfl) ?_
    refine wp_seq_k (fun K6 h6 => ?_)
    refine W.region_quiet [(0, false)] (by kernel_rfl) ?_
    refine W.as (v := .bool true) (h := ?_)
    refine W.endF 40 [(0, .agg #[.int .i64 m0, .slice x0 n0 p0]), (1, .pointer (some ⟨b2, 0, none⟩)), (2, .bool true), (3, .int .i64 (szL 1048576 n0)), (13, .bool true)] (fun U20 => ?_)
    refine h6 _ _ ?_
    refine wp_ret ?_
    try simp only [Exit.then]
    refine ret1 (v := .bool true) rfl (by kernel_rfl) ?_
    exact ⟨rfl, c17⟩
  · have hszb := szL_ok q18
    refine W.q (v := .bool false) (hr := (r_lss (m := (szL 1048576 n0)) (n := 0) rfl (by kernel_rfl) (by kernel_rfl) (decide_eq_false q18))) (h := ?_)
    refine W.endF 40 [(0, .agg #[.int .i64 m0, .slice x0 n0 p0]), (1, .pointer (some ⟨b2, 0, none⟩)), (2, .bool false), (3, .int .i64 (szL 1048576 n0)), (13, .bool false)] (fun U21 => ?_)
    refine h5 _ _ ?_
    refine wp_cond_false (by kernel_rfl) ?_
    refine wp_skip ?_
    refine h4 _ _ ?_
    refine wp_seq_k (fun K7 h7 => ?_)
    refine W.region_plain (row := none) [(0, false), (1, true), (2, true), (3, false), (4, false), (5, false), (6, false), (7, false)] (by kernel_rfl) ?_
    have s22 := SG.self w14 none
    refine W.q (v := .agg #[.int .i64 m0, .slice x0 n0 p0]) (hr := (r_load2 rfl (by kernel_rfl) (by kernel_rfl) (by kernel_rfl) (sgS (blk_cell (j := 0) x6 (by kernel_rfl)) (by simp)) (sgS (blk_cell (j := 1) x6 (by kernel_rfl)) (by simp)))) (h := ?_)
    have z27 := ((SG.belowR c17 s22 (fun kq e => by cases e))).size
    refine W.sc (vs := [.agg #[.int .i64 m0, .slice x0 n0 p0]]) rfl rfl (by kernel_rfl) (by kernel_rfl) (by kernel_rfl) rfl (toNetwork_any m0 x0 n0 p0 a0 _ (Rd.kept h0 (SG.belowR c17 s22 (fun kq e => by cases e))) (by omega)) ?_
    rintro e w31 ⟨A23, c24, rfl, ho25, b30⟩
    have s32 := SG.of_below s22 b30
    refine ⟨_, rfl, s32, ?_⟩
    have ho26 := own_base (base' := w.heap.size) ho25 z27
    have hl29 := rd_pipes_len (own_rd ho26)
    have nb33 : Nb b2 (.slice A23 n0 c24) := nb_lo ho25 (Nat.lt_of_lt_of_le (blk_lt x6) (s22).size)
    refine W.sc (vs := [.agg #[.int .i64 m0, .slice A23 n0 c24]]) rfl rfl (by kernel_rfl) (by kernel_rfl) (by kernel_rfl) rfl (NetworkText_spec m0 A23 n0 c24 a0 _ (own_rd ho26) (by omega)) ?_
    rintro e w35 ⟨rfl, b34⟩
    have s36 := SG.of_below s32 b34
    refine ⟨_, rfl, s36, ?_⟩
    have ho37 := own_kept ho26 b34
    refine W.mv (v := .tuple #[.string (NetworkText_v0 m0 a0), .bool (NetworkText_v1 m0 a0)]) (h := ?_)
    refine W.q (v := .string (NetworkText_v0 m0 a0)) (hr := (r_extract (vs := #[.string (NetworkText_v0 m0 a0), .bool (NetworkText_v1 m0 a0)]) rfl (by kernel_rfl) (by kernel_rfl))) (h := ?_)
    refine W.q (v := .bool (NetworkText_v1 m0 a0)) (hr := (r_extract (vs := #[.string (NetworkText_v0 m0 a0), .bool (NetworkText_v1 m0 a0)]) rfl (by kernel_rfl) (by kernel_rfl))) (h := ?_)
    refine W.as (v := .string (NetworkText_v0 m0 a0)) (h := ?_)
    refine W.as (v := .bool (NetworkText_v1 m0 a0)) (h := ?_)
    refine W.endF 40 [(0, .agg #[.int .i64 m0, .slice x0 n0 p0]), (1, .pointer (some ⟨b2, 0, none⟩)), (2, .bool false), (3, .int .i64 (szL 1048576 n0)), (4, .string (NetworkText_v0 m0 a0)), (5, .bool (NetworkText_v1 m0 a0)), (13, .bool false)] (fun U38 => ?_)
    have x6 := SG.blk s36 x6 (by simp)
    have c39 := (SG.belowR c17 s36 (fun kq e => by cases e))
    refine h7 _ _ ?_
    refine wp_seq_k (fun K8 h8 => ?_)
    refine W.region_plain (row := none) [(0, false), (1, true), (2, true), (3, true)] (by kernel_rfl) ?_
    have s40 := SG.self w35 none
    refine W.q (v := .agg #[.int .i64 m0, .slice x0 n0 p0]) (hr := (r_load2 rfl (by kernel_rfl) (by kernel_rfl) (by kernel_rfl) (sgS (blk_cell (j := 0) x6 (by kernel_rfl)) (by simp)) (sgS (blk_cell (j := 1) x6 (by kernel_rfl)) (by simp)))) (h := ?_)
    have z45 := ((SG.belowR c39 s40 (fun kq e => by cases e))).size
    refine W.sc (vs := [.agg #[.int .i64 m0, .slice x0 n0 p0]]) rfl rfl (by kernel_rfl) (by kernel_rfl) (by kernel_rfl) rfl (toNetwork_any m0 x0 n0 p0 a0 _ (Rd.kept h0 (SG.belowR c39 s40 (fun kq e => by cases e))) (by omega)) ?_
    rintro e w49 ⟨A41, c42, rfl, ho43, b48⟩
    have s50 := SG.of_below s40 b48
    refine ⟨_, rfl, s50, ?_⟩
    have ho51 := own_kept ho37 b48
    have ho44 := own_base (base' := w.heap.size) ho43 z45
    have hl47 := rd_pipes_len (own_rd ho44)
    have nb52 : Nb b2 (.slice A41 n0 c42) := nb_lo ho43 (Nat.lt_of_lt_of_le (blk_lt x6) (s40).size)
    have nr53 : NbR (.slice A41 n0 c42) (.slice A23 n0 c24) := fun j e1 e2 => by have h8 := (World.ownsRow.lt ho43 j e1).1; have h9 := (World.ownsRow.lt ho37 j e2).2; omega
    refine W.sn (fun b => .pointer (some ⟨b, 0, none⟩)) #[.int .i64 0, .slice none 0 0] 30 s50 rfl (by kernel_rfl) rfl (fun _ => by kernel_rfl) (fun b54 w55 hb56 k57 x58 s59 => ?_)
    have lo60 : w.heap.size ≤ b54 := by have := ((SG.belowR c39 s50 (fun kq e => by cases e))).size; omega
    have ne61 : b2 ≠ b54 := by have := blk_lt x6; have := (s50).size; omega
    have nb62 : Nb b54 (.slice A23 n0 c24) := nb_hi ho51 (Nat.le_of_eq hb56)
    have nb63 : Nb b54 (.slice A41 n0 c42) := nb_hi ho44 (Nat.le_of_eq hb56)
    have ho64 := own_kept ho51 k57
    have ho65 := own_kept ho44 k57
    refine W.ss (v := .agg #[.int .i64 m0, .slice A41 n0 c42]) (j := 0) (news := [.int .i64 m0, .slice A41 n0 c42]) (cs' := #[.int .i64 m0, .slice A41 n0 c42]) s59 rfl (by kernel_rfl) rfl rfl (by kernel_rfl) (by kernel_rfl) x58 (by kernel_rfl) (by kernel_rfl) (by simp) (by kernel_rfl) (by kernel_rfl) (.inr (by have := (s50).size; have := hb56; omega)) (fun w66 g67 x68 s69 => ?_)
    have ho70 := own_grown ho64 g67 (fun j e1 e2 => by cases e2; exact nb62 e1.symm)
    have ho71 := own_grown ho65 g67 (fun j e1 e2 => by cases e2; exact nb63 e1.symm)
    refine W.endF 40 [(0, .agg #[.int .i64 m0, .slice x0 n0 p0]), (1, .pointer (some ⟨b2, 0, none⟩)), (2, .bool false), (3, .int .i64 (szL 1048576 n0)), (4, .string (NetworkText_v0 m0 a0)), (5, .bool (NetworkText_v1 m0 a0)), (6, .pointer (some ⟨b54, 0, none⟩)), (13, .bool false)] (fun U72 => ?_)
    have x6 := SG.blk s69 x6 (by simp)
    have c73 := (SG.belowR c39 s69 (fun kq e => by cases e))
    refine h8 _ _ ?_
    refine wp_seq_k (fun K9 h9 => ?_)
    refine W.region_plain (row := none) [(0, false), (1, true), (2, false), (3, false), (4, false), (5, false), (6, false)] (by kernel_rfl) ?_
    have s74 := SG.self w66 none
    refine W.q (v := .agg #[.int .i64 m0, .slice A41 n0 c42]) (hr := (r_load2 rfl (by kernel_rfl) (by kernel_rfl) (by kernel_rfl) (sgS (blk_cell (j := 0) x68 (by kernel_rfl)) (by simp)) (sgS (blk_cell (j := 1) x68 (by kernel_rfl)) (by simp)))) (h := ?_)
    refine W.sc (vs := [.agg #[.int .i64 m0, .slice A41 n0 c42]]) rfl rfl (by kernel_rfl) (by kernel_rfl) (by kernel_rfl) rfl (NetworkText_impl m0 A41 n0 c42 a0 _ (own_rd ho71) (by omega) (tab_kept htab (SG.belowR c73 s74 (fun kq e => by cases e)))) ?_
    rintro e w76 ⟨rfl, b75⟩
    have s77 := SG.of_below s74 b75
    refine ⟨_, rfl, s77, ?_⟩
    have ho78 := own_kept ho70 b75
    have ho79 := own_kept ho71 b75
    refine W.mv (v := .tuple #[.string (NetworkText_v0 m0 a0), .bool (NetworkText_v1 m0 a0)]) (h := ?_)
    refine W.q (v := .string (NetworkText_v0 m0 a0)) (hr := (r_extract (vs := #[.string (NetworkText_v0 m0 a0), .bool (NetworkText_v1 m0 a0)]) rfl (by kernel_rfl) (by kernel_rfl))) (h := ?_)
    refine W.q (v := .bool (NetworkText_v1 m0 a0)) (hr := (r_extract (vs := #[.string (NetworkText_v0 m0 a0), .bool (NetworkText_v1 m0 a0)]) rfl (by kernel_rfl) (by kernel_rfl))) (h := ?_)
    refine W.as (v := .string (NetworkText_v0 m0 a0)) (h := ?_)
    refine W.as (v := .bool (NetworkText_v1 m0 a0)) (h := ?_)
    refine W.endF 40 [(0, .agg #[.int .i64 m0, .slice x0 n0 p0]), (1, .pointer (some ⟨b2, 0, none⟩)), (2, .bool false), (3, .int .i64 (szL 1048576 n0)), (4, .string (NetworkText_v0 m0 a0)), (5, .bool (NetworkText_v1 m0 a0)), (6, .pointer (some ⟨b54, 0, none⟩)), (7, .string (NetworkText_v0 m0 a0)), (8, .bool (NetworkText_v1 m0 a0)), (13, .bool false)] (fun U80 => ?_)
    have x6 := SG.blk s77 x6 (by simp)
    have x68 := SG.blk s77 x68 (by simp)
    have c81 := (SG.belowR c73 s77 (fun kq e => by cases e))
    refine h9 _ _ ?_
    refine wp_seq_k (fun K10 h10 => ?_)
    refine wp_seq_k (fun K11 h11 => ?_)
    refine W.region_quiet [(0, false), (1, false), (2, false), (3, false), (4, false), (5, false), (6, false), (7, false)] (by kernel_rfl) ?_
    refine W.mv (v := .string (NetworkText_v0 m0 a0)) (h := ?_)
    refine W.mv (v := .string (NetworkText_v0 m0 a0)) (h := ?_)
    refine W.q (v := .bool false) (hr := (r_neqS (s := (NetworkText_v0 m0 a0)) (r := (NetworkText_v0 m0 a0)) rfl (by kernel_rfl) (by kernel_rfl) (by rw [decide_eq_true rfl]; rfl))) (h := ?_)
    refine W.mv (v := .bool false) (h := ?_)
    refine W.mv (v := .bool (NetworkText_v1 m0 a0)) (h := ?_)
    refine W.mv (v := .bool (NetworkText_v1 m0 a0)) (h := ?_)
    refine W.q (v := .bool false) (hr := (r_neqB (m := (NetworkText_v1 m0 a0)) (n := (NetworkText_v1 m0 a0)) rfl (by kernel_rfl) (by kernel_rfl) (by kernel_rfl) (by rw [show ((NetworkText_v1 m0 a0) == (NetworkText_v1 m0 a0)) = true from beq_iff_eq.2 rfl]; rfl))) (h := ?_)
    refine W.q (v := .bool false) (hr := (r_pick (b := false) rfl (by kernel_rfl) (by kernel_rfl))) (h := ?_)
    refine W.endF 40 [(0, .agg #[.int .i64 m0, .slice x0 n0 p0]), (1, .pointer (some ⟨b2, 0, none⟩)), (2, .bool false), (3, .int .i64 (szL 1048576 n0)), (4, .string (NetworkText_v0 m0 a0)), (5, .bool (NetworkText_v1 m0 a0)), (6, .pointer (some ⟨b54, 0, none⟩)), (7, .string (NetworkText_v0 m0 a0)), (8, .bool (NetworkText_v1 m0 a0)), (13, .bool false), (34, .bool false)] (fun U82 => ?_)
    refine h11 _ _ ?_
    refine wp_cond_false (by kernel_rfl) ?_
    refine wp_skip ?_
    refine h10 _ _ ?_
    refine wp_seq_k (fun K12 h12 => ?_)
    refine wp_seq_k (fun K13 h13 => ?_)
    refine W.region_sch (row := none) (Sch.of [(0, false), (1, false), (2, true), (3, true), (4, false)]) (by kernel_rfl) (by kernel_rfl) (fun _ d _ _ _ h => by cases d <;> exact h) (by kernel_rfl) (fun w83 e84 s85 => ?_)
    have ho86 := own_heap ho78 e84
    have ho87 := own_heap ho79 e84
    refine W.q (v := .agg #[.int .i64 m0, .slice A41 n0 c42]) (hr := (r_load2 rfl (by kernel_rfl) (by kernel_rfl) (by kernel_rfl) (sgS (blk_cell (j := 0) x68 (by kernel_rfl)) (by simp)) (sgS (blk_cell (j := 1) x68 (by kernel_rfl)) (by simp)))) (h := ?_)
    refine W.q (v := .agg #[.int .i64 m0, .slice x0 n0 p0]) (hr := (r_load2 rfl (by kernel_rfl) (by kernel_rfl) (by kernel_rfl) (sgS (blk_cell (j := 0) x6 (by kernel_rfl)) (by simp)) (sgS (blk_cell (j := 1) x6 (by kernel_rfl)) (by simp)))) (h := ?_)
    have z92 := ((SG.belowR c81 s85 (fun kq e => by cases e))).size
    refine W.sc (vs := [.agg #[.int .i64 m0, .slice x0 n0 p0]]) rfl rfl (by kernel_rfl) (by kernel_rfl) (by kernel_rfl) rfl (toNetwork_any m0 x0 n0 p0 a0 _ (Rd.kept h0 (SG.belowR c81 s85 (fun kq e => by cases e))) (by omega)) ?_
    rintro e w96 ⟨A88, c89, rfl, ho90, b95⟩
    have s97 := SG.of_below s85 b95
    refine ⟨_, rfl, s97, ?_⟩
    have ho98 := own_kept ho86 b95
    have ho99 := own_kept ho87 b95
    have ho91 := own_base (base' := w.heap.size) ho90 z92
    have hl94 := rd_pipes_len (own_rd ho91)
    have nb100 : Nb b2 (.slice A88 n0 c89) := nb_lo ho90 (Nat.lt_of_lt_of_le (blk_lt x6) (s85).size)
    have nb101 : Nb b54 (.slice A88 n0 c89) := nb_lo ho90 (Nat.lt_of_lt_of_le (blk_lt x68) (s85).size)
    have nr102 : NbR (.slice A88 n0 c89) (.slice A23 n0 c24) := fun j e1 e2 => by have h8 := (World.ownsRow.lt ho90 j e1).1; have h9 := (World.ownsRow.lt ho86 j e2).2; omega
    have nr103 : NbR (.slice A88 n0 c89) (.slice A41 n0 c42) := fun j e1 e2 => by have h8 := (World.ownsRow.lt ho90 j e1).1; have h9 := (World.ownsRow.lt ho87 j e2).2; omega
    refine W.sc (vs := [.agg #[.int .i64 m0, .slice A41 n0 c42], .agg #[.int .i64 m0, .slice A88 n0 c89]]) rfl rfl (by kernel_rfl) (by kernel_rfl) (by kernel_rfl) rfl (eqNetwork_below m0 A41 A88 n0 c42 c89 a0 _ (own_rd ho99) (own_rd ho91) (by omega)) ?_
    rintro e w105 ⟨rfl, b104⟩
    have s106 := SG.of_below s97 b104
    refine ⟨_, rfl, s106, ?_⟩
    have ho107 := own_kept ho98 b104
    have ho108 := own_kept ho99 b104
    have ho109 := own_kept ho91 b104
    refine W.q (v := .bool false) (hr := (r_not (b := true) rfl (by kernel_rfl) rfl)) (h := ?_)
    refine W.endF 40 [(0, .agg #[.int .i64 m0, .slice x0 n0 p0]), (1, .pointer (some ⟨b2, 0, none⟩)), (2, .bool false), (3, .int .i64 (szL 1048576 n0)), (4, .string (NetworkText_v0 m0 a0)), (5, .bool (NetworkText_v1 m0 a0)), (6, .pointer (some ⟨b54, 0, none⟩)), (7, .string (NetworkText_v0 m0 a0)), (8, .bool (NetworkText_v1 m0 a0)), (13, .bool false), (34, .bool false), (39, .bool false)] (fun U110 => ?_)
    have x6 := SG.blk s106 x6 (by simp)
    have x68 := SG.blk s106 x68 (by simp)
    have c111 := (SG.belowR c81 s106 (fun kq e => by cases e))
    refine h13 _ _ ?_
    refine wp_cond_false (by kernel_rfl) ?_
    refine wp_skip ?_
    refine h12 _ _ ?_
    refine wp_seq_k (fun K14 h14 => ?_)
    refine W.region_quiet [(0, false)] (by kernel_rfl) ?_
    refine W.as (v := .bool true) (h := ?_)
    refine W.endF 40 [(0, .agg #[.int .i64 m0, .slice x0 n0 p0]), (1, .pointer (some ⟨b2, 0, none⟩)), (2, .bool true), (3, .int .i64 (szL 1048576 n0)), (4, .string (NetworkText_v0 m0 a0)), (5, .bool (NetworkText_v1 m0 a0)), (6, .pointer (some ⟨b54, 0, none⟩)), (7, .string (NetworkText_v0 m0 a0)), (8, .bool (NetworkText_v1 m0 a0)), (13, .bool false), (34, .bool false), (39, .bool false)] (fun U112 => ?_)
    refine h14 _ _ ?_
    refine wp_ret ?_
    try simp only [Exit.then]
    refine ret1 (v := .bool true) rfl (by kernel_rfl) ?_
    exact ⟨rfl, c111⟩

end Go.Proofs.YtmfapokolgnnhaaDoor
