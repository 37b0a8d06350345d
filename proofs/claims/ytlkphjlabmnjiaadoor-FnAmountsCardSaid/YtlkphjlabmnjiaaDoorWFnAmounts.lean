/- Contracts of conversions, comparisons and sums, part by part; the walk of the law FnAmounts. -/
import Derived.Test.YtlkphjlabmnjiaaDoorDraw3b
import Derived.Test.YtlkphjlabmnjiaaDoorAmtL
import Derived.Test.YtlkphjlabmnjiaaDoorAmtI
import Derived.Test.YtlkphjlabmnjiaaDoorNames
import Derived.Test.YtlkphjlabmnjiaaDoorRows
import Derived.Test.YtlkphjlabmnjiaaDoorLaid
import Derived.Test.YtlkphjlabmnjiaaDoorWConvert
import Derived.Test.YtlkphjlabmnjiaaDoorJoinK
import Derived.Test.YtlkphjlabmnjiaaDoorStEq
import Derived.Test.YtlkphjlabmnjiaaDoorFr
namespace Go.Proofs.YtlkphjlabmnjiaaDoor
open Go.RowKit
set_option linter.unusedVariables false
set_option linter.unusedSimpArgs false

theorem ConvertAmount_spec' (v u k : Int) (X : Int) (Y : Int) (B : Bool) (hX : convX v u k = X) (hY : convY v u k = Y) (hB : convB v u k = B) (w : World) : Calls Tryd.prog 12 #[.agg #[.int .i64 v, .int .i64 u], .int .i64 k] w fun e w' => e = .returned (.tuple #[.int .i64 X, .int .i64 Y, .bool B]) ∧ Below w.heap.size w w' := by
  subst hX hY hB
  exact (ConvertAmount_spec v u k w).mono fun e w' ⟨h, b⟩ => ⟨by rw [h, convOf_eq], b⟩

theorem ConvertAmount_impl' (v u k : Int) (X : Int) (Y : Int) (B : Bool) (hX : convX v u k = X) (hY : convY v u k = Y) (hB : convB v u k = B) (w : World) (hfl : Flows w) : Calls Tryd.prog 14 #[.agg #[.int .i64 v, .int .i64 u], .int .i64 k] w fun e w' => e = .returned (.tuple #[.int .i64 X, .int .i64 Y, .bool B]) ∧ Below w.heap.size w w' := by
  subst hX hY hB
  exact (ConvertAmount_impl v u k w hfl).mono fun e w' ⟨h, b⟩ => ⟨by rw [h, convOf_eq], b⟩

theorem CompareAmounts_spec' (v u x y : Int) (X : Int) (B : Bool) (hX : cmpX v u x y = X) (hB : cmpB v u x y = B) (w : World) : Calls Tryd.prog 19 #[.agg #[.int .i64 v, .int .i64 u], .agg #[.int .i64 x, .int .i64 y]] w fun e w' => e = .returned (.tuple #[.int .i64 X, .bool B]) ∧ Below w.heap.size w w' := by
  subst hX hB
  exact (CompareAmounts_spec v u x y w).mono fun e w' ⟨h, b⟩ => ⟨by rw [h, cmpOf_eq], b⟩

theorem CompareAmounts_impl' (v u x y : Int) (X : Int) (B : Bool) (hX : cmpX v u x y = X) (hB : cmpB v u x y = B) (w : World) (hfl : Flows w) : Calls Tryd.prog 20 #[.agg #[.int .i64 v, .int .i64 u], .agg #[.int .i64 x, .int .i64 y]] w fun e w' => e = .returned (.tuple #[.int .i64 X, .bool B]) ∧ Below w.heap.size w w' := by
  subst hX hB
  exact (CompareAmounts_impl v u x y w hfl).mono fun e w' ⟨h, b⟩ => ⟨by rw [h, cmpOf_eq], b⟩

theorem AddAmounts_spec' (v u x y k : Int) (X : Int) (Y : Int) (B : Bool) (hX : addX v u x y k = X) (hY : addY v u x y k = Y) (hB : addB v u x y k = B) (w : World) : Calls Tryd.prog 17 #[.agg #[.int .i64 v, .int .i64 u], .agg #[.int .i64 x, .int .i64 y], .int .i64 k] w fun e w' => e = .returned (.tuple #[.int .i64 X, .int .i64 Y, .bool B]) ∧ Below w.heap.size w w' := by
  subst hX hY hB
  exact (AddAmounts_spec v u x y k w).mono fun e w' ⟨h, b⟩ => ⟨by rw [h, addOf_eq], b⟩

theorem AddAmounts_impl' (v u x y k : Int) (X : Int) (Y : Int) (B : Bool) (hX : addX v u x y k = X) (hY : addY v u x y k = Y) (hB : addB v u x y k = B) (w : World) (hfl : Flows w) : Calls Tryd.prog 18 #[.agg #[.int .i64 v, .int .i64 u], .agg #[.int .i64 x, .int .i64 y], .int .i64 k] w fun e w' => e = .returned (.tuple #[.int .i64 X, .int .i64 Y, .bool B]) ∧ Below w.heap.size w w' := by
  subst hX hY hB
  exact (AddAmounts_impl v u x y k w hfl).mono fun e w' ⟨h, b⟩ => ⟨by rw [h, addOf_eq], b⟩

theorem IsValid_at (v u : Int) (w : World) : Calls Tryd.prog 35 #[.agg #[.int .i64 v, .int .i64 u]] w fun e w' => e = .returned (.bool (AmountText_v1 v u)) ∧ Below w.heap.size w w' := IsValidAmount_impl v u w

set_option maxRecDepth 100000 in
set_option maxHeartbeats 8000000 in
theorem rBig_any (A : Option Addr) (n c : Nat) (zs : List Int) (w : World) (hcode : Rd w 1 A n (bytesV zs)) (hz : ∀ z ∈ zs, 0 ≤ z ∧ z < 256) (hn : n ≤ 9223372036854775807) :
    Calls Tryd.prog 28 #[.slice A n c] w fun e w' => e = .returned (.bool (decide (65536 < n))) ∧ Below w.heap.size w w' := by
  have hl := rd_bytes_len hcode
  go_enter Tryd.func28, Tryd.ntmps28
  refine wp_seq_k (fun K1 h1 => ?_)
  refine W.region_quiet [(0, false)] (by kernel_rfl) ?_
  refine W.as (v := .bool false) (h := ?_)
  refine W.endF 6 [(0, .slice A n c), (2, .bool false)] (fun U1 => ?_)
  refine h1 _ _ ?_
  refine wp_seq_k (fun K2 h2 => ?_)
  refine W.region_quiet [(0, false), (1, false), (2, false), (3, false)] (by kernel_rfl) ?_
  refine F.mv (v := .slice A n c) (h := ?_)
  refine F.q (v := .int .i64 ((n : Nat) : Int)) (hr := (r_len (A := A) (n := n) (c := c) rfl (ev_any (by kernel_rfl)) (by kernel_rfl))) (h := ?_)
  by_cases q2 : (((n : Nat) : Int) : Int) > (65536 : Int)
  · refine F.q (v := .bool true) (hr := (r_gtr (m := ((n : Nat) : Int)) (n := 65536) rfl (ev_any (by kernel_rfl)) (ev_any (by kernel_rfl)) (decide_eq_true q2))) (h := ?_)
    refine F.as (v := .bool true) (h := ?_)
    refine F.endF [(0, .slice A n c), (2, .bool true)] (fun U3 => ?_)
    refine h2 _ _ ?_
    refine wp_ret ?_
    try simp only [Exit.then]
    refine ret1 (v := .bool true) rfl (by kernel_rfl) ?_
    exact ⟨by rw [decide_eq_true (by omega)], (Below.refl _ _)⟩
  · refine F.q (v := .bool false) (hr := (r_gtr (m := ((n : Nat) : Int)) (n := 65536) rfl (ev_any (by kernel_rfl)) (ev_any (by kernel_rfl)) (decide_eq_false q2))) (h := ?_)
    refine F.as (v := .bool false) (h := ?_)
    refine F.endF [(0, .slice A n c), (2, .bool false)] (fun U4 => ?_)
    refine h2 _ _ ?_
    refine wp_ret ?_
    try simp only [Exit.then]
    refine ret1 (v := .bool false) rfl (by kernel_rfl) ?_
    exact ⟨by rw [decide_eq_false (by omega)], (Below.refl _ _)⟩

set_option maxRecDepth 100000 in
set_option maxHeartbeats 8000000 in
theorem wi_FnAmounts (A : Option Addr) (n c : Nat) (zs : List Int) (w : World) (hcode : Rd w 1 A n (bytesV zs)) (hz : ∀ z ∈ zs, 0 ≤ z ∧ z < 256) (hn : n ≤ 9223372036854775807) (htab : Lib.TabIs Tryd.prog w "internal/strconv.uint64pow10" .u64 Lib.pow10Tab) (hfl : Flows w) (hnm : Names w) (hmax : MaxIs w) (hev : EvIs w) :
    Calls Tryd.prog 11 #[.slice A n c] w fun e w' => e = .returned (.bool true) ∧ Below w.heap.size w w' := by
  have hl := rd_bytes_len hcode
  go_enter Tryd.func11, Tryd.ntmps11
  refine wp_seq_k (fun K1 h1 => ?_)
  refine W.region_quiet [(0, false)] (by kernel_rfl) ?_
  refine W.as (v := .bool false) (h := ?_)
  refine W.endF 268 [(0, .slice A n c), (2, .bool false)] (fun U1 => ?_)
  refine h1 _ _ ?_
  refine wp_seq_k (fun K2 h2 => ?_)
  refine wp_seq_k (fun K3 h3 => ?_)
  refine W.region_plain (row := none) [(0, false), (1, true)] (by kernel_rfl) ?_
  have s2 := SG.self w none
  refine F.mv (v := .slice A n c) (h := ?_)
  refine W.sc (vs := [.slice A n c]) rfl rfl (by kernel_rfl) (by kernel_rfl) (by kernel_rfl) rfl (rBig_any A n c zs _ (Rd.kept hcode (SG.belowR (Below.refl _ _) s2 (fun kq e => by cases e))) hz hn) ?_
  rintro e w4 ⟨rfl, b3⟩
  have s5 := SG.of_below s2 b3
  refine ⟨_, rfl, s5, ?_⟩
  refine F.nx ?_
  rcases Bool.eq_false_or_eq_true (decide (65536 < n)) with q6 | q6
  · rw [q6]
    refine F.endF [(0, .slice A n c), (2, .bool false), (46, .bool true)] (fun U7 => ?_)
    have c8 := (SG.belowR (Below.refl _ _) s5 (fun kq e => by cases e))
    refine h3 _ _ ?_
    refine wp_cond_true (by kernel_rfl) ?_
    refine wp_seq_k (fun K4 h4 => ?_)
    refine W.region_quiet [(0, false)] (by kernel_rfl) ?_
    refine F.as (v := .bool true) (h := ?_)
    refine F.endF [(0, .slice A n c), (2, .bool true), (46, .bool true)] (fun U9 => ?_)
    refine h4 _ _ ?_
    refine wp_ret ?_
    try simp only [Exit.then]
    refine ret1 (v := .bool true) rfl (by kernel_rfl) ?_
    exact ⟨rfl, c8⟩
  · rw [q6]
    refine F.endF [(0, .slice A n c), (2, .bool false), (46, .bool false)] (fun U10 => ?_)
    have c11 := (SG.belowR (Below.refl _ _) s5 (fun kq e => by cases e))
    refine h3 _ _ ?_
    refine wp_cond_false (by kernel_rfl) ?_
    refine wp_skip ?_
    refine h2 _ _ ?_
    refine wp_seq_k (fun K5 h5 => ?_)
    refine W.region_plain (row := none) [(0, false), (1, true), (2, true), (3, true)] (by kernel_rfl) ?_
    have s12 := SG.self w4 none
    refine F.mv (v := .slice A n c) (h := ?_)
    refine W.sc (vs := [.slice A n c]) rfl rfl (by kernel_rfl) (by kernel_rfl) (by kernel_rfl) rfl (DrawAmountText_any A n c zs _ (Rd.kept hcode (SG.belowR c11 s12 (fun kq e => by cases e))) hz (by have h9 := of_decide_eq_false q6; omega)) ?_
    rintro e w14 ⟨v, u, rfl, b13⟩
    have s15 := SG.of_below s12 b13
    refine ⟨_, rfl, s15, ?_⟩
    refine F.nx ?_
    refine W.sn (fun b => .pointer (some ⟨b, 0, none⟩)) #[.int .i64 0, .int .i64 0] 26 s15 rfl (by kernel_rfl) rfl (fun _ => by kernel_rfl) (fun b16 w17 hb18 k19 x20 s21 => ?_)
    refine F.nx ?_
    have lo22 : w.heap.size ≤ b16 := Nat.le_trans ((SG.belowR c11 s15 (fun kq e => by cases e))).size (Nat.le_of_eq hb18)
    refine W.ss (v := .agg #[.int .i64 v, .int .i64 u]) (j := 0) (news := [.int .i64 v, .int .i64 u]) (cs' := #[.int .i64 v, .int .i64 u]) s21 rfl (by kernel_rfl) rfl rfl (by kernel_rfl) (by kernel_rfl) x20 (by kernel_rfl) (by kernel_rfl) (by simp) (by kernel_rfl) (by kernel_rfl) (.inr (Nat.le_trans (s15).size (Nat.le_of_eq hb18))) (fun w23 g24 x25 s26 => ?_)
    refine F.endF [(0, .slice A n c), (2, .bool false), (3, .pointer (some ⟨b16, 0, none⟩)), (46, .bool false)] (fun U27 => ?_)
    have c28 := (SG.belowR c11 s26 (fun kq e => by cases e))
    refine h5 _ _ ?_
    refine wp_seq_k (fun K6 h6 => ?_)
    refine W.region_plain (row := none) [(0, false), (1, true), (2, false), (3, false), (4, false), (5, false), (6, false)] (by kernel_rfl) ?_
    have s29 := SG.self w23 none
    refine F.q (v := .agg #[.int .i64 v, .int .i64 u]) (hr := (r_load2 rfl (ev_any (by kernel_rfl)) (by kernel_rfl) (by kernel_rfl) (sgS (blk_cell (j := 0) x25 (by kernel_rfl)) (Option.some_ne_none _)) (sgS (blk_cell (j := 1) x25 (by kernel_rfl)) (Option.some_ne_none _)))) (h := ?_)
    have hts := text_size v u
    refine W.sc (vs := [.agg #[.int .i64 v, .int .i64 u]]) rfl rfl (by kernel_rfl) (by kernel_rfl) (by kernel_rfl) rfl (AmountText_impl v u _ (tab_kept htab (SG.belowR c28 s29 (fun kq e => by cases e))) (names_kept hnm (SG.belowR c28 s29 (fun kq e => by cases e)))) ?_
    rintro e w31 ⟨rfl, b30⟩
    have s32 := SG.of_below s29 b30
    refine ⟨_, rfl, s32, ?_⟩
    refine F.nx ?_
    refine F.mv (v := .tuple #[.string (AmountText_v0 v u), .bool (AmountText_v1 v u)]) (h := ?_)
    refine F.q (v := .string (AmountText_v0 v u)) (hr := (r_extract (vs := #[.string (AmountText_v0 v u), .bool (AmountText_v1 v u)]) rfl (ev_any (by kernel_rfl)) (by kernel_rfl))) (h := ?_)
    refine F.q (v := .bool (AmountText_v1 v u)) (hr := (r_extract (vs := #[.string (AmountText_v0 v u), .bool (AmountText_v1 v u)]) rfl (ev_any (by kernel_rfl)) (by kernel_rfl))) (h := ?_)
    refine F.as (v := .string (AmountText_v0 v u)) (h := ?_)
    refine F.as (v := .bool (AmountText_v1 v u)) (h := ?_)
    refine F.endF [(0, .slice A n c), (2, .bool false), (3, .pointer (some ⟨b16, 0, none⟩)), (4, .string (AmountText_v0 v u)), (5, .bool (AmountText_v1 v u)), (46, .bool false)] (fun U33 => ?_)
    have x25 := SG.blk s32 x25 (Option.some_ne_none _)
    have c34 := (SG.belowR c28 s32 (fun kq e => by cases e))
    refine h6 _ _ ?_
    as_aux_lemma =>
      refine wp_seq_k (fun K7 h7 => ?_)
      refine wp_seq_k (fun K8 h8 => ?_)
      refine W.region_plain (row := none) [(0, false), (1, true), (2, false), (3, false), (4, false), (5, false), (6, false)] (by kernel_rfl) ?_
      have s35 := SG.self w31 none
      refine F.q (v := .agg #[.int .i64 v, .int .i64 u]) (hr := (r_load2 rfl (ev_any (by kernel_rfl)) (by kernel_rfl) (by kernel_rfl) (sgS (blk_cell (j := 0) x25 (by kernel_rfl)) (Option.some_ne_none _)) (sgS (blk_cell (j := 1) x25 (by kernel_rfl)) (Option.some_ne_none _)))) (h := ?_)
      refine W.sc (vs := [.agg #[.int .i64 v, .int .i64 u]]) rfl rfl (by kernel_rfl) (by kernel_rfl) (by kernel_rfl) rfl (AmountText_spec v u _) ?_
      rintro e w37 ⟨rfl, b36⟩
      have s38 := SG.of_below s35 b36
      refine ⟨_, rfl, s38, ?_⟩
      refine F.nx ?_
      refine F.mv (v := .tuple #[.string (AmountText_v0 v u), .bool (AmountText_v1 v u)]) (h := ?_)
      refine F.q (v := .string (AmountText_v0 v u)) (hr := (r_extract (vs := #[.string (AmountText_v0 v u), .bool (AmountText_v1 v u)]) rfl (ev_any (by kernel_rfl)) (by kernel_rfl))) (h := ?_)
      refine F.q (v := .bool (AmountText_v1 v u)) (hr := (r_extract (vs := #[.string (AmountText_v0 v u), .bool (AmountText_v1 v u)]) rfl (ev_any (by kernel_rfl)) (by kernel_rfl))) (h := ?_)
      refine F.as (v := .string (AmountText_v0 v u)) (h := ?_)
      refine F.as (v := .bool (AmountText_v1 v u)) (h := ?_)
      refine F.endF [(0, .slice A n c), (2, .bool false), (3, .pointer (some ⟨b16, 0, none⟩)), (4, .string (AmountText_v0 v u)), (5, .bool (AmountText_v1 v u)), (6, .string (AmountText_v0 v u)), (7, .bool (AmountText_v1 v u)), (46, .bool false)] (fun U39 => ?_)
      have x25 := SG.blk s38 x25 (Option.some_ne_none _)
      have c40 := (SG.belowR c34 s38 (fun kq e => by cases e))
      refine h8 _ _ ?_
      refine wp_seq_k (fun K9 h9 => ?_)
      refine W.region_plain (row := none) [(0, false), (1, false), (2, false), (3, false), (4, false), (5, false), (6, false), (7, false), (8, false), (9, false), (10, false), (11, true), (12, false), (13, false)] (by kernel_rfl) ?_
      have s41 := SG.self w37 none
      refine F.mv (v := .string (AmountText_v0 v u)) (h := ?_)
      refine F.mv (v := .string (AmountText_v0 v u)) (h := ?_)
      refine F.q (v := .bool false) (hr := (r_neqS (s := (AmountText_v0 v u)) (r := (AmountText_v0 v u)) rfl (ev_any (by kernel_rfl)) (ev_any (by kernel_rfl)) (by rw [decide_eq_true rfl]; rfl))) (h := ?_)
      refine F.mv (v := .bool false) (h := ?_)
      refine F.mv (v := .bool (AmountText_v1 v u)) (h := ?_)
      refine F.mv (v := .bool (AmountText_v1 v u)) (h := ?_)
      refine F.q (v := .bool false) (hr := (r_neqB (m := (AmountText_v1 v u)) (n := (AmountText_v1 v u)) rfl (ev_any (by kernel_rfl)) (ev_any (by kernel_rfl)) (by kernel_rfl) (by rw [show ((AmountText_v1 v u) == (AmountText_v1 v u)) = true from beq_iff_eq.2 rfl]; rfl))) (h := ?_)
      refine F.q (v := .bool false) (hr := (r_pick (b := false) rfl (ev_any (by kernel_rfl)) (ev_any (by kernel_rfl)))) (h := ?_)
      refine F.mv (v := .bool false) (h := ?_)
      refine F.mv (v := .bool (AmountText_v1 v u)) (h := ?_)
      refine F.q (v := .agg #[.int .i64 v, .int .i64 u]) (hr := (r_load2 rfl (ev_any (by kernel_rfl)) (by kernel_rfl) (by kernel_rfl) (sgS (blk_cell (j := 0) x25 (by kernel_rfl)) (Option.some_ne_none _)) (sgS (blk_cell (j := 1) x25 (by kernel_rfl)) (Option.some_ne_none _)))) (h := ?_)
      refine W.sc (vs := [.agg #[.int .i64 v, .int .i64 u]]) rfl rfl (by kernel_rfl) (by kernel_rfl) (by kernel_rfl) rfl (IsValid_at v u _) ?_
      rintro e w43 ⟨rfl, b42⟩
      have s44 := SG.of_below s41 b42
      refine ⟨_, rfl, s44, ?_⟩
      refine F.nx ?_
      refine F.q (v := .bool false) (hr := (r_neqB (m := (AmountText_v1 v u)) (n := (AmountText_v1 v u)) rfl (ev_any (by kernel_rfl)) (ev_any (by kernel_rfl)) (by kernel_rfl) (by rw [show ((AmountText_v1 v u) == (AmountText_v1 v u)) = true from beq_iff_eq.2 rfl]; rfl))) (h := ?_)
      refine F.q (v := .bool false) (hr := (r_pick (b := false) rfl (ev_any (by kernel_rfl)) (ev_any (by kernel_rfl)))) (h := ?_)
      refine F.endF [(0, .slice A n c), (2, .bool false), (3, .pointer (some ⟨b16, 0, none⟩)), (4, .string (AmountText_v0 v u)), (5, .bool (AmountText_v1 v u)), (6, .string (AmountText_v0 v u)), (7, .bool (AmountText_v1 v u)), (46, .bool false), (72, .bool false)] (fun U45 => ?_)
      have x25 := SG.blk s44 x25 (Option.some_ne_none _)
      have c46 := (SG.belowR c40 s44 (fun kq e => by cases e))
      refine h9 _ _ ?_
      refine wp_cond_false (by kernel_rfl) ?_
      refine wp_skip ?_
      refine h7 _ _ ?_
      refine joinK (fun amj1 aaj1 wlj1 => ∃ (Uj1 : Nat → Value), aaj1 = ⟨(fr Uj1 [(0, .slice A n c), (2, .bool false)] 268 0).toArray, []⟩ ∧ (amj1 = 0) ∧ (wlj1.heap[b16]? = some (.cells #[.int .i64 v, .int .i64 u] 26 (0, 0))) ∧ (Below w.heap.size w wlj1)) ?_ ?_
      · rintro amj1 aaj1 wlj1 ⟨Uj1, rfl, rfl, x25, c47⟩
        refine wp_seq_k (fun K10 h10 => ?_)
        refine W.region_plain (row := none) [(0, false), (1, true), (2, false)] (by kernel_rfl) ?_
        have s48 := SG.self wlj1 none
        refine F.mv (v := .slice A n c) (h := ?_)
        refine W.sc (vs := [.slice A n c]) rfl rfl (by kernel_rfl) (by kernel_rfl) (by kernel_rfl) rfl (DrawParseAmount_any A n c zs _ (Rd.kept hcode (SG.belowR c47 s48 (fun kq e => by cases e))) hz (by have h9 := of_decide_eq_false q6; omega)) ?_
        rintro e w50 ⟨t, rfl, ht9, b49⟩
        have s51 := SG.of_below s48 b49
        refine ⟨_, rfl, s51, ?_⟩
        refine F.nx ?_
        refine F.as (v := .string t) (h := ?_)
        refine F.endF [(0, .slice A n c), (2, .bool false), (10, .string t)] (fun U52 => ?_)
        have x25 := SG.blk s51 x25 (Option.some_ne_none _)
        have c53 := (SG.belowR c47 s51 (fun kq e => by cases e))
        refine h10 _ _ ?_
        as_aux_lemma =>
          refine wp_seq_k (fun K11 h11 => ?_)
          refine W.region_plain (row := none) [(0, false), (1, true), (2, false), (3, false), (4, false), (5, true), (6, true), (7, false)] (by kernel_rfl) ?_
          have s54 := SG.self w50 none
          refine F.mv (v := .string t) (h := ?_)
          refine W.sc (vs := [.string t]) rfl rfl (by kernel_rfl) (by kernel_rfl) (by kernel_rfl) rfl (ParseAmount_impl t _ (by omega) (max_kept hmax (SG.belowR c53 s54 (fun kq e => by cases e))) (tab_kept htab (SG.belowR c53 s54 (fun kq e => by cases e))) (names_kept hnm (SG.belowR c53 s54 (fun kq e => by cases e))) (ev_kept hev (SG.belowR c53 s54 (fun kq e => by cases e)))) ?_
          rintro e w56 ⟨rfl, b55⟩
          have s57 := SG.of_below s54 b55
          refine ⟨_, rfl, s57, ?_⟩
          refine F.nx ?_
          refine F.mv (v := .tuple #[.agg #[.int .i64 (ParseAmount_vv t), .int .i64 (ParseAmount_vu t)], .bool (ParseAmount_v1 t)]) (h := ?_)
          refine F.q (v := .agg #[.int .i64 (ParseAmount_vv t), .int .i64 (ParseAmount_vu t)]) (hr := (r_extract (vs := #[.agg #[.int .i64 (ParseAmount_vv t), .int .i64 (ParseAmount_vu t)], .bool (ParseAmount_v1 t)]) rfl (ev_any (by kernel_rfl)) (by kernel_rfl))) (h := ?_)
          refine F.q (v := .bool (ParseAmount_v1 t)) (hr := (r_extract (vs := #[.agg #[.int .i64 (ParseAmount_vv t), .int .i64 (ParseAmount_vu t)], .bool (ParseAmount_v1 t)]) rfl (ev_any (by kernel_rfl)) (by kernel_rfl))) (h := ?_)
          refine W.sn (fun b => .pointer (some ⟨b, 0, none⟩)) #[.int .i64 0, .int .i64 0] 26 s57 rfl (by kernel_rfl) rfl (fun _ => by kernel_rfl) (fun b58 w59 hb60 k61 x62 s63 => ?_)
          refine F.nx ?_
          have lo64 : w.heap.size ≤ b58 := Nat.le_trans ((SG.belowR c53 s57 (fun kq e => by cases e))).size (Nat.le_of_eq hb60)
          have ne65 : b16 ≠ b58 := Nat.ne_of_lt (Nat.lt_of_lt_of_eq (Nat.lt_of_lt_of_le (blk_lt x25) (s57).size) hb60)
          refine W.ss (v := .agg #[.int .i64 (ParseAmount_vv t), .int .i64 (ParseAmount_vu t)]) (j := 0) (news := [.int .i64 (ParseAmount_vv t), .int .i64 (ParseAmount_vu t)]) (cs' := #[.int .i64 (ParseAmount_vv t), .int .i64 (ParseAmount_vu t)]) s63 rfl (by kernel_rfl) rfl rfl (by kernel_rfl) (by kernel_rfl) x62 (by kernel_rfl) (by kernel_rfl) (by simp) (by kernel_rfl) (by kernel_rfl) (.inr (Nat.le_trans (s57).size (Nat.le_of_eq hb60))) (fun w66 g67 x68 s69 => ?_)
          refine F.as (v := .bool (ParseAmount_v1 t)) (h := ?_)
          refine F.endF [(0, .slice A n c), (2, .bool false), (10, .string t), (11, .pointer (some ⟨b58, 0, none⟩)), (12, .bool (ParseAmount_v1 t))] (fun U70 => ?_)
          have x25 := SG.blk s69 x25 (Option.some_ne_none _)
          have c71 := (SG.belowR c53 s69 (fun kq e => by cases e))
          refine h11 _ _ ?_
          refine wp_seq_k (fun K12 h12 => ?_)
          refine wp_seq_k (fun K13 h13 => ?_)
          refine W.region_plain (row := none) [(0, false), (1, true), (2, false), (3, false), (4, false), (5, true), (6, true), (7, false)] (by kernel_rfl) ?_
          have s72 := SG.self w66 none
          refine F.mv (v := .string t) (h := ?_)
          refine W.sc (vs := [.string t]) rfl rfl (by kernel_rfl) (by kernel_rfl) (by kernel_rfl) rfl (ParseAmount_spec t _ (by omega) ) ?_
          rintro e w74 ⟨rfl, b73⟩
          have s75 := SG.of_below s72 b73
          refine ⟨_, rfl, s75, ?_⟩
          refine F.nx ?_
          refine F.mv (v := .tuple #[.agg #[.int .i64 (ParseAmount_vv t), .int .i64 (ParseAmount_vu t)], .bool (ParseAmount_v1 t)]) (h := ?_)
          refine F.q (v := .agg #[.int .i64 (ParseAmount_vv t), .int .i64 (ParseAmount_vu t)]) (hr := (r_extract (vs := #[.agg #[.int .i64 (ParseAmount_vv t), .int .i64 (ParseAmount_vu t)], .bool (ParseAmount_v1 t)]) rfl (ev_any (by kernel_rfl)) (by kernel_rfl))) (h := ?_)
          refine F.q (v := .bool (ParseAmount_v1 t)) (hr := (r_extract (vs := #[.agg #[.int .i64 (ParseAmount_vv t), .int .i64 (ParseAmount_vu t)], .bool (ParseAmount_v1 t)]) rfl (ev_any (by kernel_rfl)) (by kernel_rfl))) (h := ?_)
          refine W.sn (fun b => .pointer (some ⟨b, 0, none⟩)) #[.int .i64 0, .int .i64 0] 26 s75 rfl (by kernel_rfl) rfl (fun _ => by kernel_rfl) (fun b76 w77 hb78 k79 x80 s81 => ?_)
          refine F.nx ?_
          have lo82 : w.heap.size ≤ b76 := Nat.le_trans ((SG.belowR c71 s75 (fun kq e => by cases e))).size (Nat.le_of_eq hb78)
          have ne83 : b16 ≠ b76 := Nat.ne_of_lt (Nat.lt_of_lt_of_eq (Nat.lt_of_lt_of_le (blk_lt x25) (s75).size) hb78)
          have ne84 : b58 ≠ b76 := Nat.ne_of_lt (Nat.lt_of_lt_of_eq (Nat.lt_of_lt_of_le (blk_lt x68) (s75).size) hb78)
          refine W.ss (v := .agg #[.int .i64 (ParseAmount_vv t), .int .i64 (ParseAmount_vu t)]) (j := 0) (news := [.int .i64 (ParseAmount_vv t), .int .i64 (ParseAmount_vu t)]) (cs' := #[.int .i64 (ParseAmount_vv t), .int .i64 (ParseAmount_vu t)]) s81 rfl (by kernel_rfl) rfl rfl (by kernel_rfl) (by kernel_rfl) x80 (by kernel_rfl) (by kernel_rfl) (by simp) (by kernel_rfl) (by kernel_rfl) (.inr (Nat.le_trans (s75).size (Nat.le_of_eq hb78))) (fun w85 g86 x87 s88 => ?_)
          refine F.as (v := .bool (ParseAmount_v1 t)) (h := ?_)
          refine F.endF [(0, .slice A n c), (2, .bool false), (10, .string t), (11, .pointer (some ⟨b58, 0, none⟩)), (12, .bool (ParseAmount_v1 t)), (13, .pointer (some ⟨b76, 0, none⟩)), (14, .bool (ParseAmount_v1 t))] (fun U89 => ?_)
          have x25 := SG.blk s88 x25 (Option.some_ne_none _)
          have x68 := SG.blk s88 x68 (Option.some_ne_none _)
          have c90 := (SG.belowR c71 s88 (fun kq e => by cases e))
          refine h13 _ _ ?_
          refine wp_seq_k (fun K14 h14 => ?_)
          refine W.region_quiet [(0, false), (1, false), (2, false), (3, false), (4, false), (5, false), (6, false), (7, false)] (by kernel_rfl) ?_
          refine F.q (v := .agg #[.int .i64 (ParseAmount_vv t), .int .i64 (ParseAmount_vu t)]) (hr := (r_load2 rfl (ev_any (by kernel_rfl)) (by kernel_rfl) (by kernel_rfl) (eqS (blk_cell (j := 0) x68 (by kernel_rfl))) (eqS (blk_cell (j := 1) x68 (by kernel_rfl))))) (h := ?_)
          refine F.q (v := .agg #[.int .i64 (ParseAmount_vv t), .int .i64 (ParseAmount_vu t)]) (hr := (r_load2 rfl (ev_any (by kernel_rfl)) (by kernel_rfl) (by kernel_rfl) (eqS (blk_cell (j := 0) x87 (by kernel_rfl))) (eqS (blk_cell (j := 1) x87 (by kernel_rfl))))) (h := ?_)
          refine F.q (v := .bool false) (hr := (r_neq_Amount (a1 := (ParseAmount_vv t)) (a2 := (ParseAmount_vu t)) (b1 := (ParseAmount_vv t)) (b2 := (ParseAmount_vu t)) rfl (ev_any (by kernel_rfl)) (ev_any (by kernel_rfl)) (decide_eq_true ⟨rfl, rfl⟩))) (h := ?_)
          refine F.mv (v := .bool false) (h := ?_)
          refine F.mv (v := .bool (ParseAmount_v1 t)) (h := ?_)
          refine F.mv (v := .bool (ParseAmount_v1 t)) (h := ?_)
          refine F.q (v := .bool false) (hr := (r_neqB (m := (ParseAmount_v1 t)) (n := (ParseAmount_v1 t)) rfl (ev_any (by kernel_rfl)) (ev_any (by kernel_rfl)) (by kernel_rfl) (by rw [show ((ParseAmount_v1 t) == (ParseAmount_v1 t)) = true from beq_iff_eq.2 rfl]; rfl))) (h := ?_)
          refine F.q (v := .bool false) (hr := (r_pick (b := false) rfl (ev_any (by kernel_rfl)) (ev_any (by kernel_rfl)))) (h := ?_)
          refine F.endF [(0, .slice A n c), (2, .bool false), (10, .string t), (11, .pointer (some ⟨b58, 0, none⟩)), (12, .bool (ParseAmount_v1 t)), (13, .pointer (some ⟨b76, 0, none⟩)), (14, .bool (ParseAmount_v1 t)), (107, .bool false)] (fun U91 => ?_)
          refine h14 _ _ ?_
          refine wp_cond_false (by kernel_rfl) ?_
          refine wp_skip ?_
          refine h12 _ _ ?_
          as_aux_lemma =>
            refine wp_seq_k (fun K15 h15 => ?_)
            refine W.region_plain (row := none) [(0, false), (1, true), (2, false), (3, false), (4, false), (5, true), (6, true), (7, false)] (by kernel_rfl) ?_
            have s92 := SG.self w85 none
            refine F.mv (v := .slice A n c) (h := ?_)
            refine W.sc (vs := [.slice A n c]) rfl rfl (by kernel_rfl) (by kernel_rfl) (by kernel_rfl) rfl (DrawConvertAmount_any A n c zs _ (Rd.kept hcode (SG.belowR c90 s92 (fun kq e => by cases e))) hz (by have h9 := of_decide_eq_false q6; omega)) ?_
            rintro e w94 ⟨cv, cu, ck, rfl, b93⟩
            have s95 := SG.of_below s92 b93
            refine ⟨_, rfl, s95, ?_⟩
            refine F.nx ?_
            refine F.mv (v := .tuple #[.agg #[.int .i64 cv, .int .i64 cu], .int .i64 ck]) (h := ?_)
            refine F.q (v := .agg #[.int .i64 cv, .int .i64 cu]) (hr := (r_extract (vs := #[.agg #[.int .i64 cv, .int .i64 cu], .int .i64 ck]) rfl (ev_any (by kernel_rfl)) (by kernel_rfl))) (h := ?_)
            refine F.q (v := .int .i64 ck) (hr := (r_extract (vs := #[.agg #[.int .i64 cv, .int .i64 cu], .int .i64 ck]) rfl (ev_any (by kernel_rfl)) (by kernel_rfl))) (h := ?_)
            refine W.sn (fun b => .pointer (some ⟨b, 0, none⟩)) #[.int .i64 0, .int .i64 0] 26 s95 rfl (by kernel_rfl) rfl (fun _ => by kernel_rfl) (fun b96 w97 hb98 k99 x100 s101 => ?_)
            refine F.nx ?_
            have lo102 : w.heap.size ≤ b96 := Nat.le_trans ((SG.belowR c90 s95 (fun kq e => by cases e))).size (Nat.le_of_eq hb98)
            have ne103 : b16 ≠ b96 := Nat.ne_of_lt (Nat.lt_of_lt_of_eq (Nat.lt_of_lt_of_le (blk_lt x25) (s95).size) hb98)
            have ne104 : b58 ≠ b96 := Nat.ne_of_lt (Nat.lt_of_lt_of_eq (Nat.lt_of_lt_of_le (blk_lt x68) (s95).size) hb98)
            have ne105 : b76 ≠ b96 := Nat.ne_of_lt (Nat.lt_of_lt_of_eq (Nat.lt_of_lt_of_le (blk_lt x87) (s95).size) hb98)
            refine W.ss (v := .agg #[.int .i64 cv, .int .i64 cu]) (j := 0) (news := [.int .i64 cv, .int .i64 cu]) (cs' := #[.int .i64 cv, .int .i64 cu]) s101 rfl (by kernel_rfl) rfl rfl (by kernel_rfl) (by kernel_rfl) x100 (by kernel_rfl) (by kernel_rfl) (by simp) (by kernel_rfl) (by kernel_rfl) (.inr (Nat.le_trans (s95).size (Nat.le_of_eq hb98))) (fun w106 g107 x108 s109 => ?_)
            refine F.as (v := .int .i64 ck) (h := ?_)
            refine F.endF [(0, .slice A n c), (2, .bool false), (10, .string t), (11, .pointer (some ⟨b58, 0, none⟩)), (12, .bool (ParseAmount_v1 t)), (13, .pointer (some ⟨b76, 0, none⟩)), (14, .bool (ParseAmount_v1 t)), (15, .pointer (some ⟨b96, 0, none⟩)), (16, .int .i64 ck), (107, .bool false)] (fun U110 => ?_)
            have x25 := SG.blk s109 x25 (Option.some_ne_none _)
            have x68 := SG.blk s109 x68 (Option.some_ne_none _)
            have x87 := SG.blk s109 x87 (Option.some_ne_none _)
            have c111 := (SG.belowR c90 s109 (fun kq e => by cases e))
            refine h15 _ _ ?_
            refine wp_seq_k (fun K16 h16 => ?_)
            refine W.region_plain (row := none) [(0, false), (1, false), (2, true), (3, false), (4, false), (5, false), (6, false), (7, false), (8, false), (9, false)] (by kernel_rfl) ?_
            have s112 := SG.self w106 none
            refine F.q (v := .agg #[.int .i64 cv, .int .i64 cu]) (hr := (r_load2 rfl (ev_any (by kernel_rfl)) (by kernel_rfl) (by kernel_rfl) (sgS (blk_cell (j := 0) x108 (by kernel_rfl)) (Option.some_ne_none _)) (sgS (blk_cell (j := 1) x108 (by kernel_rfl)) (Option.some_ne_none _)))) (h := ?_)
            refine F.mv (v := .int .i64 ck) (h := ?_)
            refine W.sc (vs := [.agg #[.int .i64 cv, .int .i64 cu], .int .i64 ck]) rfl rfl (by kernel_rfl) (by kernel_rfl) (by kernel_rfl) rfl (ConvertAmount_impl' cv cu ck _ _ _ rfl rfl rfl _ (Flows.later hfl (SG.belowR c111 s112 (fun kq e => by cases e)))) ?_
            rintro e w114 ⟨rfl, b113⟩
            have s115 := SG.of_below s112 b113
            refine ⟨_, rfl, s115, ?_⟩
            refine F.nx ?_
            refine F.mv (v := .tuple #[.int .i64 (convX cv cu ck), .int .i64 (convY cv cu ck), .bool (convB cv cu ck)]) (h := ?_)
            refine F.q (v := .int .i64 (convX cv cu ck)) (hr := (r_extract (vs := #[.int .i64 (convX cv cu ck), .int .i64 (convY cv cu ck), .bool (convB cv cu ck)]) rfl (ev_any (by kernel_rfl)) (by kernel_rfl))) (h := ?_)
            refine F.q (v := .int .i64 (convY cv cu ck)) (hr := (r_extract (vs := #[.int .i64 (convX cv cu ck), .int .i64 (convY cv cu ck), .bool (convB cv cu ck)]) rfl (ev_any (by kernel_rfl)) (by kernel_rfl))) (h := ?_)
            refine F.q (v := .bool (convB cv cu ck)) (hr := (r_extract (vs := #[.int .i64 (convX cv cu ck), .int .i64 (convY cv cu ck), .bool (convB cv cu ck)]) rfl (ev_any (by kernel_rfl)) (by kernel_rfl))) (h := ?_)
            refine F.as (v := .int .i64 (convX cv cu ck)) (h := ?_)
            refine F.as (v := .int .i64 (convY cv cu ck)) (h := ?_)
            refine F.as (v := .bool (convB cv cu ck)) (h := ?_)
            refine F.endF [(0, .slice A n c), (2, .bool false), (10, .string t), (11, .pointer (some ⟨b58, 0, none⟩)), (12, .bool (ParseAmount_v1 t)), (13, .pointer (some ⟨b76, 0, none⟩)), (14, .bool (ParseAmount_v1 t)), (15, .pointer (some ⟨b96, 0, none⟩)), (16, .int .i64 ck), (17, .int .i64 (convX cv cu ck)), (18, .int .i64 (convY cv cu ck)), (19, .bool (convB cv cu ck)), (107, .bool false)] (fun U116 => ?_)
            have x25 := SG.blk s115 x25 (Option.some_ne_none _)
            have x68 := SG.blk s115 x68 (Option.some_ne_none _)
            have x87 := SG.blk s115 x87 (Option.some_ne_none _)
            have x108 := SG.blk s115 x108 (Option.some_ne_none _)
            have c117 := (SG.belowR c111 s115 (fun kq e => by cases e))
            refine h16 _ _ ?_
            refine wp_seq_k (fun K17 h17 => ?_)
            refine wp_seq_k (fun K18 h18 => ?_)
            refine W.region_plain (row := none) [(0, false), (1, false), (2, true), (3, false), (4, false), (5, false), (6, false), (7, false), (8, false), (9, false)] (by kernel_rfl) ?_
            have s118 := SG.self w114 none
            refine F.q (v := .agg #[.int .i64 cv, .int .i64 cu]) (hr := (r_load2 rfl (ev_any (by kernel_rfl)) (by kernel_rfl) (by kernel_rfl) (sgS (blk_cell (j := 0) x108 (by kernel_rfl)) (Option.some_ne_none _)) (sgS (blk_cell (j := 1) x108 (by kernel_rfl)) (Option.some_ne_none _)))) (h := ?_)
            refine F.mv (v := .int .i64 ck) (h := ?_)
            refine W.sc (vs := [.agg #[.int .i64 cv, .int .i64 cu], .int .i64 ck]) rfl rfl (by kernel_rfl) (by kernel_rfl) (by kernel_rfl) rfl (ConvertAmount_spec' cv cu ck _ _ _ rfl rfl rfl _) ?_
            rintro e w120 ⟨rfl, b119⟩
            have s121 := SG.of_below s118 b119
            refine ⟨_, rfl, s121, ?_⟩
            refine F.nx ?_
            refine F.mv (v := .tuple #[.int .i64 (convX cv cu ck), .int .i64 (convY cv cu ck), .bool (convB cv cu ck)]) (h := ?_)
            refine F.q (v := .int .i64 (convX cv cu ck)) (hr := (r_extract (vs := #[.int .i64 (convX cv cu ck), .int .i64 (convY cv cu ck), .bool (convB cv cu ck)]) rfl (ev_any (by kernel_rfl)) (by kernel_rfl))) (h := ?_)
            refine F.q (v := .int .i64 (convY cv cu ck)) (hr := (r_extract (vs := #[.int .i64 (convX cv cu ck), .int .i64 (convY cv cu ck), .bool (convB cv cu ck)]) rfl (ev_any (by kernel_rfl)) (by kernel_rfl))) (h := ?_)
            refine F.q (v := .bool (convB cv cu ck)) (hr := (r_extract (vs := #[.int .i64 (convX cv cu ck), .int .i64 (convY cv cu ck), .bool (convB cv cu ck)]) rfl (ev_any (by kernel_rfl)) (by kernel_rfl))) (h := ?_)
            refine F.as (v := .int .i64 (convX cv cu ck)) (h := ?_)
            refine F.as (v := .int .i64 (convY cv cu ck)) (h := ?_)
            refine F.as (v := .bool (convB cv cu ck)) (h := ?_)
            refine F.endF [(0, .slice A n c), (2, .bool false), (10, .string t), (11, .pointer (some ⟨b58, 0, none⟩)), (12, .bool (ParseAmount_v1 t)), (13, .pointer (some ⟨b76, 0, none⟩)), (14, .bool (ParseAmount_v1 t)), (15, .pointer (some ⟨b96, 0, none⟩)), (16, .int .i64 ck), (17, .int .i64 (convX cv cu ck)), (18, .int .i64 (convY cv cu ck)), (19, .bool (convB cv cu ck)), (20, .int .i64 (convX cv cu ck)), (21, .int .i64 (convY cv cu ck)), (22, .bool (convB cv cu ck)), (107, .bool false)] (fun U122 => ?_)
            have x25 := SG.blk s121 x25 (Option.some_ne_none _)
            have x68 := SG.blk s121 x68 (Option.some_ne_none _)
            have x87 := SG.blk s121 x87 (Option.some_ne_none _)
            have x108 := SG.blk s121 x108 (Option.some_ne_none _)
            have c123 := (SG.belowR c117 s121 (fun kq e => by cases e))
            refine h18 _ _ ?_
            as_aux_lemma =>
              refine wp_seq_k (fun K19 h19 => ?_)
              refine W.region_quiet [(0, false), (1, false), (2, false), (3, false), (4, false), (5, false), (6, false), (7, false), (8, false), (9, false), (10, false), (11, false), (12, false)] (by kernel_rfl) ?_
              refine F.mv (v := .int .i64 (convX cv cu ck)) (h := ?_)
              refine F.mv (v := .int .i64 (convX cv cu ck)) (h := ?_)
              refine F.q (v := .bool false) (hr := (r_neq (m := (convX cv cu ck)) (n := (convX cv cu ck)) rfl (ev_any (by kernel_rfl)) (ev_any (by kernel_rfl)) (decide_eq_false (by omega)))) (h := ?_)
              refine F.mv (v := .bool false) (h := ?_)
              refine F.mv (v := .int .i64 (convY cv cu ck)) (h := ?_)
              refine F.mv (v := .int .i64 (convY cv cu ck)) (h := ?_)
              refine F.q (v := .bool false) (hr := (r_neq (m := (convY cv cu ck)) (n := (convY cv cu ck)) rfl (ev_any (by kernel_rfl)) (ev_any (by kernel_rfl)) (decide_eq_false (by omega)))) (h := ?_)
              refine F.q (v := .bool false) (hr := (r_pick (b := false) rfl (ev_any (by kernel_rfl)) (ev_any (by kernel_rfl)))) (h := ?_)
              refine F.mv (v := .bool false) (h := ?_)
              refine F.mv (v := .bool (convB cv cu ck)) (h := ?_)
              refine F.mv (v := .bool (convB cv cu ck)) (h := ?_)
              refine F.q (v := .bool false) (hr := (r_neqB (m := (convB cv cu ck)) (n := (convB cv cu ck)) rfl (ev_any (by kernel_rfl)) (ev_any (by kernel_rfl)) (by kernel_rfl) (by rw [show ((convB cv cu ck) == (convB cv cu ck)) = true from beq_iff_eq.2 rfl]; rfl))) (h := ?_)
              refine F.q (v := .bool false) (hr := (r_pick (b := false) rfl (ev_any (by kernel_rfl)) (ev_any (by kernel_rfl)))) (h := ?_)
              refine F.endF [(0, .slice A n c), (2, .bool false), (10, .string t), (11, .pointer (some ⟨b58, 0, none⟩)), (12, .bool (ParseAmount_v1 t)), (13, .pointer (some ⟨b76, 0, none⟩)), (14, .bool (ParseAmount_v1 t)), (15, .pointer (some ⟨b96, 0, none⟩)), (16, .int .i64 ck), (17, .int .i64 (convX cv cu ck)), (18, .int .i64 (convY cv cu ck)), (19, .bool (convB cv cu ck)), (20, .int .i64 (convX cv cu ck)), (21, .int .i64 (convY cv cu ck)), (22, .bool (convB cv cu ck)), (107, .bool false), (139, .bool false)] (fun U124 => ?_)
              refine h19 _ _ ?_
              refine wp_cond_false (by kernel_rfl) ?_
              refine wp_skip ?_
              refine h17 _ _ ?_
              refine joinK (fun amj2 aaj2 wlj2 => ∃ (Uj2 : Nat → Value), aaj2 = ⟨(fr Uj2 [(0, .slice A n c), (2, .bool false)] 268 0).toArray, []⟩ ∧ (amj2 = 0) ∧ (wlj2.heap[b16]? = some (.cells #[.int .i64 v, .int .i64 u] 26 (0, 0))) ∧ (wlj2.heap[b58]? = some (.cells #[.int .i64 (ParseAmount_vv t), .int .i64 (ParseAmount_vu t)] 26 (0, 0))) ∧ (wlj2.heap[b76]? = some (.cells #[.int .i64 (ParseAmount_vv t), .int .i64 (ParseAmount_vu t)] 26 (0, 0))) ∧ (wlj2.heap[b96]? = some (.cells #[.int .i64 cv, .int .i64 cu] 26 (0, 0))) ∧ (Below w.heap.size w wlj2)) ?_ ?_
              · rintro amj2 aaj2 wlj2 ⟨Uj2, rfl, rfl, x25, x68, x87, x108, c125⟩
                refine wp_seq_k (fun K20 h20 => ?_)
                refine W.region_plain (row := none) [(0, false), (1, true), (2, false), (3, false), (4, false), (5, false), (6, true), (7, true), (8, true), (9, true), (10, false)] (by kernel_rfl) ?_
                have s126 := SG.self wlj2 none
                refine F.mv (v := .slice A n c) (h := ?_)
                refine W.sc (vs := [.slice A n c]) rfl rfl (by kernel_rfl) (by kernel_rfl) (by kernel_rfl) rfl (DrawAddAmounts_any A n c zs _ (Rd.kept hcode (SG.belowR c125 s126 (fun kq e => by cases e))) hz (by have h9 := of_decide_eq_false q6; omega)) ?_
                rintro e w128 ⟨av, au, ax, ay, ak, rfl, b127⟩
                have s129 := SG.of_below s126 b127
                refine ⟨_, rfl, s129, ?_⟩
                refine F.nx ?_
                refine F.mv (v := .tuple #[.agg #[.int .i64 av, .int .i64 au], .agg #[.int .i64 ax, .int .i64 ay], .int .i64 ak]) (h := ?_)
                refine F.q (v := .agg #[.int .i64 av, .int .i64 au]) (hr := (r_extract (vs := #[.agg #[.int .i64 av, .int .i64 au], .agg #[.int .i64 ax, .int .i64 ay], .int .i64 ak]) rfl (ev_any (by kernel_rfl)) (by kernel_rfl))) (h := ?_)
                refine F.q (v := .agg #[.int .i64 ax, .int .i64 ay]) (hr := (r_extract (vs := #[.agg #[.int .i64 av, .int .i64 au], .agg #[.int .i64 ax, .int .i64 ay], .int .i64 ak]) rfl (ev_any (by kernel_rfl)) (by kernel_rfl))) (h := ?_)
                refine F.q (v := .int .i64 ak) (hr := (r_extract (vs := #[.agg #[.int .i64 av, .int .i64 au], .agg #[.int .i64 ax, .int .i64 ay], .int .i64 ak]) rfl (ev_any (by kernel_rfl)) (by kernel_rfl))) (h := ?_)
                refine W.sn (fun b => .pointer (some ⟨b, 0, none⟩)) #[.int .i64 0, .int .i64 0] 26 s129 rfl (by kernel_rfl) rfl (fun _ => by kernel_rfl) (fun b130 w131 hb132 k133 x134 s135 => ?_)
                refine F.nx ?_
                have lo136 : w.heap.size ≤ b130 := Nat.le_trans ((SG.belowR c125 s129 (fun kq e => by cases e))).size (Nat.le_of_eq hb132)
                have ne137 : b16 ≠ b130 := Nat.ne_of_lt (Nat.lt_of_lt_of_eq (Nat.lt_of_lt_of_le (blk_lt x25) (s129).size) hb132)
                have ne138 : b58 ≠ b130 := Nat.ne_of_lt (Nat.lt_of_lt_of_eq (Nat.lt_of_lt_of_le (blk_lt x68) (s129).size) hb132)
                have ne139 : b76 ≠ b130 := Nat.ne_of_lt (Nat.lt_of_lt_of_eq (Nat.lt_of_lt_of_le (blk_lt x87) (s129).size) hb132)
                have ne140 : b96 ≠ b130 := Nat.ne_of_lt (Nat.lt_of_lt_of_eq (Nat.lt_of_lt_of_le (blk_lt x108) (s129).size) hb132)
                refine W.sn (fun b => .pointer (some ⟨b, 0, none⟩)) #[.int .i64 0, .int .i64 0] 26 s135 rfl (by kernel_rfl) rfl (fun _ => by kernel_rfl) (fun b141 w142 hb143 k144 x145 s146 => ?_)
                refine F.nx ?_
                have lo147 : w.heap.size ≤ b141 := Nat.le_trans ((SG.belowR c125 s135 (fun kq e => by cases e))).size (Nat.le_of_eq hb143)
                have ne148 : b16 ≠ b141 := Nat.ne_of_lt (Nat.lt_of_lt_of_eq (Nat.lt_of_lt_of_le (blk_lt x25) (s135).size) hb143)
                have ne149 : b58 ≠ b141 := Nat.ne_of_lt (Nat.lt_of_lt_of_eq (Nat.lt_of_lt_of_le (blk_lt x68) (s135).size) hb143)
                have ne150 : b76 ≠ b141 := Nat.ne_of_lt (Nat.lt_of_lt_of_eq (Nat.lt_of_lt_of_le (blk_lt x87) (s135).size) hb143)
                have ne151 : b96 ≠ b141 := Nat.ne_of_lt (Nat.lt_of_lt_of_eq (Nat.lt_of_lt_of_le (blk_lt x108) (s135).size) hb143)
                have ne152 : b130 ≠ b141 := Nat.ne_of_lt (Nat.lt_of_lt_of_eq (blk_lt x134) hb143)
                have x134 := (k144.block _ (blk_lt x134)).trans x134
                refine W.ss (v := .agg #[.int .i64 av, .int .i64 au]) (j := 0) (news := [.int .i64 av, .int .i64 au]) (cs' := #[.int .i64 av, .int .i64 au]) s146 rfl (by kernel_rfl) rfl rfl (by kernel_rfl) (by kernel_rfl) x134 (by kernel_rfl) (by kernel_rfl) (by simp) (by kernel_rfl) (by kernel_rfl) (.inr (Nat.le_trans (s129).size (Nat.le_of_eq hb132))) (fun w153 g154 x155 s156 => ?_)
                have x145 := (g154.block _ (blk_lt x145) (fun e9 => ne152 (Option.some.inj e9).symm)).trans x145
                refine W.ss (v := .agg #[.int .i64 ax, .int .i64 ay]) (j := 0) (news := [.int .i64 ax, .int .i64 ay]) (cs' := #[.int .i64 ax, .int .i64 ay]) s156 rfl (by kernel_rfl) rfl rfl (by kernel_rfl) (by kernel_rfl) x145 (by kernel_rfl) (by kernel_rfl) (by simp) (by kernel_rfl) (by kernel_rfl) (.inr (Nat.le_trans (s135).size (Nat.le_of_eq hb143))) (fun w157 g158 x159 s160 => ?_)
                have x155 := (g158.block _ (blk_lt x155) (fun e9 => ne152 (Option.some.inj e9))).trans x155
                refine F.as (v := .int .i64 ak) (h := ?_)
                refine F.endF [(0, .slice A n c), (2, .bool false), (25, .pointer (some ⟨b130, 0, none⟩)), (26, .pointer (some ⟨b141, 0, none⟩)), (27, .int .i64 ak)] (fun U161 => ?_)
                have x25 := SG.blk s160 x25 (Option.some_ne_none _)
                have x68 := SG.blk s160 x68 (Option.some_ne_none _)
                have x87 := SG.blk s160 x87 (Option.some_ne_none _)
                have x108 := SG.blk s160 x108 (Option.some_ne_none _)
                have c162 := (SG.belowR c125 s160 (fun kq e => by cases e))
                refine h20 _ _ ?_
                as_aux_lemma =>
                  refine wp_seq_k (fun K21 h21 => ?_)
                  refine W.region_plain (row := none) [(0, false), (1, false), (2, false), (3, true), (4, false), (5, false), (6, false), (7, false), (8, false), (9, false), (10, false)] (by kernel_rfl) ?_
                  have s163 := SG.self w157 none
                  refine F.q (v := .agg #[.int .i64 av, .int .i64 au]) (hr := (r_load2 rfl (ev_any (by kernel_rfl)) (by kernel_rfl) (by kernel_rfl) (sgS (blk_cell (j := 0) x155 (by kernel_rfl)) (Option.some_ne_none _)) (sgS (blk_cell (j := 1) x155 (by kernel_rfl)) (Option.some_ne_none _)))) (h := ?_)
                  refine F.q (v := .agg #[.int .i64 ax, .int .i64 ay]) (hr := (r_load2 rfl (ev_any (by kernel_rfl)) (by kernel_rfl) (by kernel_rfl) (sgS (blk_cell (j := 0) x159 (by kernel_rfl)) (Option.some_ne_none _)) (sgS (blk_cell (j := 1) x159 (by kernel_rfl)) (Option.some_ne_none _)))) (h := ?_)
                  refine F.mv (v := .int .i64 ak) (h := ?_)
                  refine W.sc (vs := [.agg #[.int .i64 av, .int .i64 au], .agg #[.int .i64 ax, .int .i64 ay], .int .i64 ak]) rfl rfl (by kernel_rfl) (by kernel_rfl) (by kernel_rfl) rfl (AddAmounts_impl' av au ax ay ak _ _ _ rfl rfl rfl _ (Flows.later hfl (SG.belowR c162 s163 (fun kq e => by cases e)))) ?_
                  rintro e w165 ⟨rfl, b164⟩
                  have s166 := SG.of_below s163 b164
                  refine ⟨_, rfl, s166, ?_⟩
                  refine F.nx ?_
                  refine F.mv (v := .tuple #[.int .i64 (addX av au ax ay ak), .int .i64 (addY av au ax ay ak), .bool (addB av au ax ay ak)]) (h := ?_)
                  refine F.q (v := .int .i64 (addX av au ax ay ak)) (hr := (r_extract (vs := #[.int .i64 (addX av au ax ay ak), .int .i64 (addY av au ax ay ak), .bool (addB av au ax ay ak)]) rfl (ev_any (by kernel_rfl)) (by kernel_rfl))) (h := ?_)
                  refine F.q (v := .int .i64 (addY av au ax ay ak)) (hr := (r_extract (vs := #[.int .i64 (addX av au ax ay ak), .int .i64 (addY av au ax ay ak), .bool (addB av au ax ay ak)]) rfl (ev_any (by kernel_rfl)) (by kernel_rfl))) (h := ?_)
                  refine F.q (v := .bool (addB av au ax ay ak)) (hr := (r_extract (vs := #[.int .i64 (addX av au ax ay ak), .int .i64 (addY av au ax ay ak), .bool (addB av au ax ay ak)]) rfl (ev_any (by kernel_rfl)) (by kernel_rfl))) (h := ?_)
                  refine F.as (v := .int .i64 (addX av au ax ay ak)) (h := ?_)
                  refine F.as (v := .int .i64 (addY av au ax ay ak)) (h := ?_)
                  refine F.as (v := .bool (addB av au ax ay ak)) (h := ?_)
                  refine F.endF [(0, .slice A n c), (2, .bool false), (25, .pointer (some ⟨b130, 0, none⟩)), (26, .pointer (some ⟨b141, 0, none⟩)), (27, .int .i64 ak), (28, .int .i64 (addX av au ax ay ak)), (29, .int .i64 (addY av au ax ay ak)), (30, .bool (addB av au ax ay ak))] (fun U167 => ?_)
                  have x25 := SG.blk s166 x25 (Option.some_ne_none _)
                  have x68 := SG.blk s166 x68 (Option.some_ne_none _)
                  have x87 := SG.blk s166 x87 (Option.some_ne_none _)
                  have x108 := SG.blk s166 x108 (Option.some_ne_none _)
                  have x155 := SG.blk s166 x155 (Option.some_ne_none _)
                  have x159 := SG.blk s166 x159 (Option.some_ne_none _)
                  have c168 := (SG.belowR c162 s166 (fun kq e => by cases e))
                  refine h21 _ _ ?_
                  refine wp_seq_k (fun K22 h22 => ?_)
                  refine W.region_plain (row := none) [(0, false), (1, false), (2, false), (3, true), (4, false), (5, false), (6, false), (7, false), (8, false), (9, false), (10, false)] (by kernel_rfl) ?_
                  have s169 := SG.self w165 none
                  refine F.q (v := .agg #[.int .i64 ax, .int .i64 ay]) (hr := (r_load2 rfl (ev_any (by kernel_rfl)) (by kernel_rfl) (by kernel_rfl) (sgS (blk_cell (j := 0) x159 (by kernel_rfl)) (Option.some_ne_none _)) (sgS (blk_cell (j := 1) x159 (by kernel_rfl)) (Option.some_ne_none _)))) (h := ?_)
                  refine F.q (v := .agg #[.int .i64 av, .int .i64 au]) (hr := (r_load2 rfl (ev_any (by kernel_rfl)) (by kernel_rfl) (by kernel_rfl) (sgS (blk_cell (j := 0) x155 (by kernel_rfl)) (Option.some_ne_none _)) (sgS (blk_cell (j := 1) x155 (by kernel_rfl)) (Option.some_ne_none _)))) (h := ?_)
                  refine F.mv (v := .int .i64 ak) (h := ?_)
                  refine W.sc (vs := [.agg #[.int .i64 ax, .int .i64 ay], .agg #[.int .i64 av, .int .i64 au], .int .i64 ak]) rfl rfl (by kernel_rfl) (by kernel_rfl) (by kernel_rfl) rfl (AddAmounts_impl' ax ay av au ak _ _ _ (addX_comm av au ax ay ak) (addY_comm av au ax ay ak) (addB_comm av au ax ay ak) _ (Flows.later hfl (SG.belowR c168 s169 (fun kq e => by cases e)))) ?_
                  rintro e w171 ⟨rfl, b170⟩
                  have s172 := SG.of_below s169 b170
                  refine ⟨_, rfl, s172, ?_⟩
                  refine F.nx ?_
                  refine F.mv (v := .tuple #[.int .i64 (addX av au ax ay ak), .int .i64 (addY av au ax ay ak), .bool (addB av au ax ay ak)]) (h := ?_)
                  refine F.q (v := .int .i64 (addX av au ax ay ak)) (hr := (r_extract (vs := #[.int .i64 (addX av au ax ay ak), .int .i64 (addY av au ax ay ak), .bool (addB av au ax ay ak)]) rfl (ev_any (by kernel_rfl)) (by kernel_rfl))) (h := ?_)
                  refine F.q (v := .int .i64 (addY av au ax ay ak)) (hr := (r_extract (vs := #[.int .i64 (addX av au ax ay ak), .int .i64 (addY av au ax ay ak), .bool (addB av au ax ay ak)]) rfl (ev_any (by kernel_rfl)) (by kernel_rfl))) (h := ?_)
                  refine F.q (v := .bool (addB av au ax ay ak)) (hr := (r_extract (vs := #[.int .i64 (addX av au ax ay ak), .int .i64 (addY av au ax ay ak), .bool (addB av au ax ay ak)]) rfl (ev_any (by kernel_rfl)) (by kernel_rfl))) (h := ?_)
                  refine F.as (v := .int .i64 (addX av au ax ay ak)) (h := ?_)
                  refine F.as (v := .int .i64 (addY av au ax ay ak)) (h := ?_)
                  refine F.as (v := .bool (addB av au ax ay ak)) (h := ?_)
                  refine F.endF [(0, .slice A n c), (2, .bool false), (25, .pointer (some ⟨b130, 0, none⟩)), (26, .pointer (some ⟨b141, 0, none⟩)), (27, .int .i64 ak), (28, .int .i64 (addX av au ax ay ak)), (29, .int .i64 (addY av au ax ay ak)), (30, .bool (addB av au ax ay ak)), (31, .int .i64 (addX av au ax ay ak)), (32, .int .i64 (addY av au ax ay ak)), (33, .bool (addB av au ax ay ak))] (fun U173 => ?_)
                  have x25 := SG.blk s172 x25 (Option.some_ne_none _)
                  have x68 := SG.blk s172 x68 (Option.some_ne_none _)
                  have x87 := SG.blk s172 x87 (Option.some_ne_none _)
                  have x108 := SG.blk s172 x108 (Option.some_ne_none _)
                  have x155 := SG.blk s172 x155 (Option.some_ne_none _)
                  have x159 := SG.blk s172 x159 (Option.some_ne_none _)
                  have c174 := (SG.belowR c168 s172 (fun kq e => by cases e))
                  refine h22 _ _ ?_
                  refine wp_seq_k (fun K23 h23 => ?_)
                  refine wp_seq_k (fun K24 h24 => ?_)
                  refine W.region_plain (row := none) [(0, false), (1, false), (2, false), (3, true), (4, false), (5, false), (6, false), (7, false), (8, false), (9, false), (10, false)] (by kernel_rfl) ?_
                  have s175 := SG.self w171 none
                  refine F.q (v := .agg #[.int .i64 av, .int .i64 au]) (hr := (r_load2 rfl (ev_any (by kernel_rfl)) (by kernel_rfl) (by kernel_rfl) (sgS (blk_cell (j := 0) x155 (by kernel_rfl)) (Option.some_ne_none _)) (sgS (blk_cell (j := 1) x155 (by kernel_rfl)) (Option.some_ne_none _)))) (h := ?_)
                  refine F.q (v := .agg #[.int .i64 ax, .int .i64 ay]) (hr := (r_load2 rfl (ev_any (by kernel_rfl)) (by kernel_rfl) (by kernel_rfl) (sgS (blk_cell (j := 0) x159 (by kernel_rfl)) (Option.some_ne_none _)) (sgS (blk_cell (j := 1) x159 (by kernel_rfl)) (Option.some_ne_none _)))) (h := ?_)
                  refine F.mv (v := .int .i64 ak) (h := ?_)
                  refine W.sc (vs := [.agg #[.int .i64 av, .int .i64 au], .agg #[.int .i64 ax, .int .i64 ay], .int .i64 ak]) rfl rfl (by kernel_rfl) (by kernel_rfl) (by kernel_rfl) rfl (AddAmounts_spec' av au ax ay ak _ _ _ rfl rfl rfl _) ?_
                  rintro e w177 ⟨rfl, b176⟩
                  have s178 := SG.of_below s175 b176
                  refine ⟨_, rfl, s178, ?_⟩
                  refine F.nx ?_
                  refine F.mv (v := .tuple #[.int .i64 (addX av au ax ay ak), .int .i64 (addY av au ax ay ak), .bool (addB av au ax ay ak)]) (h := ?_)
                  refine F.q (v := .int .i64 (addX av au ax ay ak)) (hr := (r_extract (vs := #[.int .i64 (addX av au ax ay ak), .int .i64 (addY av au ax ay ak), .bool (addB av au ax ay ak)]) rfl (ev_any (by kernel_rfl)) (by kernel_rfl))) (h := ?_)
                  refine F.q (v := .int .i64 (addY av au ax ay ak)) (hr := (r_extract (vs := #[.int .i64 (addX av au ax ay ak), .int .i64 (addY av au ax ay ak), .bool (addB av au ax ay ak)]) rfl (ev_any (by kernel_rfl)) (by kernel_rfl))) (h := ?_)
                  refine F.q (v := .bool (addB av au ax ay ak)) (hr := (r_extract (vs := #[.int .i64 (addX av au ax ay ak), .int .i64 (addY av au ax ay ak), .bool (addB av au ax ay ak)]) rfl (ev_any (by kernel_rfl)) (by kernel_rfl))) (h := ?_)
                  refine F.as (v := .int .i64 (addX av au ax ay ak)) (h := ?_)
                  refine F.as (v := .int .i64 (addY av au ax ay ak)) (h := ?_)
                  refine F.as (v := .bool (addB av au ax ay ak)) (h := ?_)
                  refine F.endF [(0, .slice A n c), (2, .bool false), (25, .pointer (some ⟨b130, 0, none⟩)), (26, .pointer (some ⟨b141, 0, none⟩)), (27, .int .i64 ak), (28, .int .i64 (addX av au ax ay ak)), (29, .int .i64 (addY av au ax ay ak)), (30, .bool (addB av au ax ay ak)), (31, .int .i64 (addX av au ax ay ak)), (32, .int .i64 (addY av au ax ay ak)), (33, .bool (addB av au ax ay ak)), (34, .int .i64 (addX av au ax ay ak)), (35, .int .i64 (addY av au ax ay ak)), (36, .bool (addB av au ax ay ak))] (fun U179 => ?_)
                  have x25 := SG.blk s178 x25 (Option.some_ne_none _)
                  have x68 := SG.blk s178 x68 (Option.some_ne_none _)
                  have x87 := SG.blk s178 x87 (Option.some_ne_none _)
                  have x108 := SG.blk s178 x108 (Option.some_ne_none _)
                  have x155 := SG.blk s178 x155 (Option.some_ne_none _)
                  have x159 := SG.blk s178 x159 (Option.some_ne_none _)
                  have c180 := (SG.belowR c174 s178 (fun kq e => by cases e))
                  refine h24 _ _ ?_
                  as_aux_lemma =>
                    refine wp_seq_k (fun K25 h25 => ?_)
                    refine W.region_quiet [(0, false), (1, false), (2, false), (3, false), (4, false), (5, false), (6, false), (7, false), (8, false), (9, false), (10, false), (11, false), (12, false), (13, false), (14, false), (15, false), (16, false), (17, false), (18, false), (19, false), (20, false), (21, false), (22, false), (23, false), (24, false), (25, false), (26, false), (27, false)] (by kernel_rfl) ?_
                    refine F.mv (v := .int .i64 (addX av au ax ay ak)) (h := ?_)
                    refine F.mv (v := .int .i64 (addX av au ax ay ak)) (h := ?_)
                    refine F.q (v := .bool false) (hr := (r_neq (m := (addX av au ax ay ak)) (n := (addX av au ax ay ak)) rfl (ev_any (by kernel_rfl)) (ev_any (by kernel_rfl)) (decide_eq_false (by omega)))) (h := ?_)
                    refine F.mv (v := .bool false) (h := ?_)
                    refine F.mv (v := .int .i64 (addY av au ax ay ak)) (h := ?_)
                    refine F.mv (v := .int .i64 (addY av au ax ay ak)) (h := ?_)
                    refine F.q (v := .bool false) (hr := (r_neq (m := (addY av au ax ay ak)) (n := (addY av au ax ay ak)) rfl (ev_any (by kernel_rfl)) (ev_any (by kernel_rfl)) (decide_eq_false (by omega)))) (h := ?_)
                    refine F.q (v := .bool false) (hr := (r_pick (b := false) rfl (ev_any (by kernel_rfl)) (ev_any (by kernel_rfl)))) (h := ?_)
                    refine F.mv (v := .bool false) (h := ?_)
                    refine F.mv (v := .bool (addB av au ax ay ak)) (h := ?_)
                    refine F.mv (v := .bool (addB av au ax ay ak)) (h := ?_)
                    refine F.q (v := .bool false) (hr := (r_neqB (m := (addB av au ax ay ak)) (n := (addB av au ax ay ak)) rfl (ev_any (by kernel_rfl)) (ev_any (by kernel_rfl)) (by kernel_rfl) (by rw [show ((addB av au ax ay ak) == (addB av au ax ay ak)) = true from beq_iff_eq.2 rfl]; rfl))) (h := ?_)
                    refine F.q (v := .bool false) (hr := (r_pick (b := false) rfl (ev_any (by kernel_rfl)) (ev_any (by kernel_rfl)))) (h := ?_)
                    refine F.mv (v := .bool false) (h := ?_)
                    refine F.mv (v := .bool (addB av au ax ay ak)) (h := ?_)
                    refine F.mv (v := .bool (addB av au ax ay ak)) (h := ?_)
                    refine F.q (v := .bool false) (hr := (r_neqB (m := (addB av au ax ay ak)) (n := (addB av au ax ay ak)) rfl (ev_any (by kernel_rfl)) (ev_any (by kernel_rfl)) (by kernel_rfl) (by rw [show ((addB av au ax ay ak) == (addB av au ax ay ak)) = true from beq_iff_eq.2 rfl]; rfl))) (h := ?_)
                    refine F.q (v := .bool false) (hr := (r_pick (b := false) rfl (ev_any (by kernel_rfl)) (ev_any (by kernel_rfl)))) (h := ?_)
                    refine F.mv (v := .bool false) (h := ?_)
                    refine F.mv (v := .int .i64 (addX av au ax ay ak)) (h := ?_)
                    refine F.mv (v := .int .i64 (addX av au ax ay ak)) (h := ?_)
                    refine F.q (v := .bool false) (hr := (r_neq (m := (addX av au ax ay ak)) (n := (addX av au ax ay ak)) rfl (ev_any (by kernel_rfl)) (ev_any (by kernel_rfl)) (decide_eq_false (by omega)))) (h := ?_)
                    refine F.q (v := .bool false) (hr := (r_pick (b := false) rfl (ev_any (by kernel_rfl)) (ev_any (by kernel_rfl)))) (h := ?_)
                    refine F.mv (v := .bool false) (h := ?_)
                    refine F.mv (v := .int .i64 (addY av au ax ay ak)) (h := ?_)
                    refine F.mv (v := .int .i64 (addY av au ax ay ak)) (h := ?_)
                    refine F.q (v := .bool false) (hr := (r_neq (m := (addY av au ax ay ak)) (n := (addY av au ax ay ak)) rfl (ev_any (by kernel_rfl)) (ev_any (by kernel_rfl)) (decide_eq_false (by omega)))) (h := ?_)
                    refine F.q (v := .bool false) (hr := (r_pick (b := false) rfl (ev_any (by kernel_rfl)) (ev_any (by kernel_rfl)))) (h := ?_)
                    refine F.endF [(0, .slice A n c), (2, .bool false), (25, .pointer (some ⟨b130, 0, none⟩)), (26, .pointer (some ⟨b141, 0, none⟩)), (27, .int .i64 ak), (28, .int .i64 (addX av au ax ay ak)), (29, .int .i64 (addY av au ax ay ak)), (30, .bool (addB av au ax ay ak)), (31, .int .i64 (addX av au ax ay ak)), (32, .int .i64 (addY av au ax ay ak)), (33, .bool (addB av au ax ay ak)), (34, .int .i64 (addX av au ax ay ak)), (35, .int .i64 (addY av au ax ay ak)), (36, .bool (addB av au ax ay ak)), (220, .bool false)] (fun U181 => ?_)
                    refine h25 _ _ ?_
                    refine wp_cond_false (by kernel_rfl) ?_
                    refine wp_skip ?_
                    refine h23 _ _ ?_
                    refine wp_seq_k (fun K26 h26 => ?_)
                    refine W.region_plain (row := none) [(0, false), (1, true), (2, false), (3, false), (4, false), (5, true), (6, true), (7, true), (8, true)] (by kernel_rfl) ?_
                    have s182 := SG.self w177 none
                    refine F.mv (v := .slice A n c) (h := ?_)
                    refine W.sc (vs := [.slice A n c]) rfl rfl (by kernel_rfl) (by kernel_rfl) (by kernel_rfl) rfl (DrawCompareAmounts_any A n c zs _ (Rd.kept hcode (SG.belowR c180 s182 (fun kq e => by cases e))) hz (by have h9 := of_decide_eq_false q6; omega)) ?_
                    rintro e w184 ⟨dv, du, ev, eu, rfl, b183⟩
                    have s185 := SG.of_below s182 b183
                    refine ⟨_, rfl, s185, ?_⟩
                    refine F.nx ?_
                    refine F.mv (v := .tuple #[.agg #[.int .i64 dv, .int .i64 du], .agg #[.int .i64 ev, .int .i64 eu]]) (h := ?_)
                    refine F.q (v := .agg #[.int .i64 dv, .int .i64 du]) (hr := (r_extract (vs := #[.agg #[.int .i64 dv, .int .i64 du], .agg #[.int .i64 ev, .int .i64 eu]]) rfl (ev_any (by kernel_rfl)) (by kernel_rfl))) (h := ?_)
                    refine F.q (v := .agg #[.int .i64 ev, .int .i64 eu]) (hr := (r_extract (vs := #[.agg #[.int .i64 dv, .int .i64 du], .agg #[.int .i64 ev, .int .i64 eu]]) rfl (ev_any (by kernel_rfl)) (by kernel_rfl))) (h := ?_)
                    refine W.sn (fun b => .pointer (some ⟨b, 0, none⟩)) #[.int .i64 0, .int .i64 0] 26 s185 rfl (by kernel_rfl) rfl (fun _ => by kernel_rfl) (fun b186 w187 hb188 k189 x190 s191 => ?_)
                    refine F.nx ?_
                    have lo192 : w.heap.size ≤ b186 := Nat.le_trans ((SG.belowR c180 s185 (fun kq e => by cases e))).size (Nat.le_of_eq hb188)
                    have ne193 : b16 ≠ b186 := Nat.ne_of_lt (Nat.lt_of_lt_of_eq (Nat.lt_of_lt_of_le (blk_lt x25) (s185).size) hb188)
                    have ne194 : b58 ≠ b186 := Nat.ne_of_lt (Nat.lt_of_lt_of_eq (Nat.lt_of_lt_of_le (blk_lt x68) (s185).size) hb188)
                    have ne195 : b76 ≠ b186 := Nat.ne_of_lt (Nat.lt_of_lt_of_eq (Nat.lt_of_lt_of_le (blk_lt x87) (s185).size) hb188)
                    have ne196 : b96 ≠ b186 := Nat.ne_of_lt (Nat.lt_of_lt_of_eq (Nat.lt_of_lt_of_le (blk_lt x108) (s185).size) hb188)
                    have ne197 : b130 ≠ b186 := Nat.ne_of_lt (Nat.lt_of_lt_of_eq (Nat.lt_of_lt_of_le (blk_lt x155) (s185).size) hb188)
                    have ne198 : b141 ≠ b186 := Nat.ne_of_lt (Nat.lt_of_lt_of_eq (Nat.lt_of_lt_of_le (blk_lt x159) (s185).size) hb188)
                    refine W.sn (fun b => .pointer (some ⟨b, 0, none⟩)) #[.int .i64 0, .int .i64 0] 26 s191 rfl (by kernel_rfl) rfl (fun _ => by kernel_rfl) (fun b199 w200 hb201 k202 x203 s204 => ?_)
                    refine F.nx ?_
                    have lo205 : w.heap.size ≤ b199 := Nat.le_trans ((SG.belowR c180 s191 (fun kq e => by cases e))).size (Nat.le_of_eq hb201)
                    have ne206 : b16 ≠ b199 := Nat.ne_of_lt (Nat.lt_of_lt_of_eq (Nat.lt_of_lt_of_le (blk_lt x25) (s191).size) hb201)
                    have ne207 : b58 ≠ b199 := Nat.ne_of_lt (Nat.lt_of_lt_of_eq (Nat.lt_of_lt_of_le (blk_lt x68) (s191).size) hb201)
                    have ne208 : b76 ≠ b199 := Nat.ne_of_lt (Nat.lt_of_lt_of_eq (Nat.lt_of_lt_of_le (blk_lt x87) (s191).size) hb201)
                    have ne209 : b96 ≠ b199 := Nat.ne_of_lt (Nat.lt_of_lt_of_eq (Nat.lt_of_lt_of_le (blk_lt x108) (s191).size) hb201)
                    have ne210 : b130 ≠ b199 := Nat.ne_of_lt (Nat.lt_of_lt_of_eq (Nat.lt_of_lt_of_le (blk_lt x155) (s191).size) hb201)
                    have ne211 : b141 ≠ b199 := Nat.ne_of_lt (Nat.lt_of_lt_of_eq (Nat.lt_of_lt_of_le (blk_lt x159) (s191).size) hb201)
                    have ne212 : b186 ≠ b199 := Nat.ne_of_lt (Nat.lt_of_lt_of_eq (blk_lt x190) hb201)
                    have x190 := (k202.block _ (blk_lt x190)).trans x190
                    refine W.ss (v := .agg #[.int .i64 dv, .int .i64 du]) (j := 0) (news := [.int .i64 dv, .int .i64 du]) (cs' := #[.int .i64 dv, .int .i64 du]) s204 rfl (by kernel_rfl) rfl rfl (by kernel_rfl) (by kernel_rfl) x190 (by kernel_rfl) (by kernel_rfl) (by simp) (by kernel_rfl) (by kernel_rfl) (.inr (Nat.le_trans (s185).size (Nat.le_of_eq hb188))) (fun w213 g214 x215 s216 => ?_)
                    have x203 := (g214.block _ (blk_lt x203) (fun e9 => ne212 (Option.some.inj e9).symm)).trans x203
                    refine W.ss (v := .agg #[.int .i64 ev, .int .i64 eu]) (j := 0) (news := [.int .i64 ev, .int .i64 eu]) (cs' := #[.int .i64 ev, .int .i64 eu]) s216 rfl (by kernel_rfl) rfl rfl (by kernel_rfl) (by kernel_rfl) x203 (by kernel_rfl) (by kernel_rfl) (by simp) (by kernel_rfl) (by kernel_rfl) (.inr (Nat.le_trans (s191).size (Nat.le_of_eq hb201))) (fun w217 g218 x219 s220 => ?_)
                    have x215 := (g218.block _ (blk_lt x215) (fun e9 => ne212 (Option.some.inj e9))).trans x215
                    refine F.endF [(0, .slice A n c), (2, .bool false), (25, .pointer (some ⟨b130, 0, none⟩)), (26, .pointer (some ⟨b141, 0, none⟩)), (27, .int .i64 ak), (28, .int .i64 (addX av au ax ay ak)), (29, .int .i64 (addY av au ax ay ak)), (30, .bool (addB av au ax ay ak)), (31, .int .i64 (addX av au ax ay ak)), (32, .int .i64 (addY av au ax ay ak)), (33, .bool (addB av au ax ay ak)), (34, .int .i64 (addX av au ax ay ak)), (35, .int .i64 (addY av au ax ay ak)), (36, .bool (addB av au ax ay ak)), (37, .pointer (some ⟨b186, 0, none⟩)), (38, .pointer (some ⟨b199, 0, none⟩)), (220, .bool false)] (fun U221 => ?_)
                    have x25 := SG.blk s220 x25 (Option.some_ne_none _)
                    have x68 := SG.blk s220 x68 (Option.some_ne_none _)
                    have x87 := SG.blk s220 x87 (Option.some_ne_none _)
                    have x108 := SG.blk s220 x108 (Option.some_ne_none _)
                    have x155 := SG.blk s220 x155 (Option.some_ne_none _)
                    have x159 := SG.blk s220 x159 (Option.some_ne_none _)
                    have c222 := (SG.belowR c180 s220 (fun kq e => by cases e))
                    refine h26 _ _ ?_
                    as_aux_lemma =>
                      refine wp_seq_k (fun K27 h27 => ?_)
                      refine W.region_plain (row := none) [(0, false), (1, false), (2, true), (3, false), (4, false), (5, false), (6, false), (7, false)] (by kernel_rfl) ?_
                      have s223 := SG.self w217 none
                      refine F.q (v := .agg #[.int .i64 dv, .int .i64 du]) (hr := (r_load2 rfl (ev_any (by kernel_rfl)) (by kernel_rfl) (by kernel_rfl) (sgS (blk_cell (j := 0) x215 (by kernel_rfl)) (Option.some_ne_none _)) (sgS (blk_cell (j := 1) x215 (by kernel_rfl)) (Option.some_ne_none _)))) (h := ?_)
                      refine F.q (v := .agg #[.int .i64 ev, .int .i64 eu]) (hr := (r_load2 rfl (ev_any (by kernel_rfl)) (by kernel_rfl) (by kernel_rfl) (sgS (blk_cell (j := 0) x219 (by kernel_rfl)) (Option.some_ne_none _)) (sgS (blk_cell (j := 1) x219 (by kernel_rfl)) (Option.some_ne_none _)))) (h := ?_)
                      refine W.sc (vs := [.agg #[.int .i64 dv, .int .i64 du], .agg #[.int .i64 ev, .int .i64 eu]]) rfl rfl (by kernel_rfl) (by kernel_rfl) (by kernel_rfl) rfl (CompareAmounts_impl' dv du ev eu _ _ rfl rfl _ (Flows.later hfl (SG.belowR c222 s223 (fun kq e => by cases e)))) ?_
                      rintro e w225 ⟨rfl, b224⟩
                      have s226 := SG.of_below s223 b224
                      refine ⟨_, rfl, s226, ?_⟩
                      refine F.nx ?_
                      refine F.mv (v := .tuple #[.int .i64 (cmpX dv du ev eu), .bool (cmpB dv du ev eu)]) (h := ?_)
                      refine F.q (v := .int .i64 (cmpX dv du ev eu)) (hr := (r_extract (vs := #[.int .i64 (cmpX dv du ev eu), .bool (cmpB dv du ev eu)]) rfl (ev_any (by kernel_rfl)) (by kernel_rfl))) (h := ?_)
                      refine F.q (v := .bool (cmpB dv du ev eu)) (hr := (r_extract (vs := #[.int .i64 (cmpX dv du ev eu), .bool (cmpB dv du ev eu)]) rfl (ev_any (by kernel_rfl)) (by kernel_rfl))) (h := ?_)
                      refine F.as (v := .int .i64 (cmpX dv du ev eu)) (h := ?_)
                      refine F.as (v := .bool (cmpB dv du ev eu)) (h := ?_)
                      refine F.endF [(0, .slice A n c), (2, .bool false), (25, .pointer (some ⟨b130, 0, none⟩)), (26, .pointer (some ⟨b141, 0, none⟩)), (27, .int .i64 ak), (28, .int .i64 (addX av au ax ay ak)), (29, .int .i64 (addY av au ax ay ak)), (30, .bool (addB av au ax ay ak)), (31, .int .i64 (addX av au ax ay ak)), (32, .int .i64 (addY av au ax ay ak)), (33, .bool (addB av au ax ay ak)), (34, .int .i64 (addX av au ax ay ak)), (35, .int .i64 (addY av au ax ay ak)), (36, .bool (addB av au ax ay ak)), (37, .pointer (some ⟨b186, 0, none⟩)), (38, .pointer (some ⟨b199, 0, none⟩)), (39, .int .i64 (cmpX dv du ev eu)), (40, .bool (cmpB dv du ev eu)), (220, .bool false)] (fun U227 => ?_)
                      have x25 := SG.blk s226 x25 (Option.some_ne_none _)
                      have x68 := SG.blk s226 x68 (Option.some_ne_none _)
                      have x87 := SG.blk s226 x87 (Option.some_ne_none _)
                      have x108 := SG.blk s226 x108 (Option.some_ne_none _)
                      have x155 := SG.blk s226 x155 (Option.some_ne_none _)
                      have x159 := SG.blk s226 x159 (Option.some_ne_none _)
                      have x215 := SG.blk s226 x215 (Option.some_ne_none _)
                      have x219 := SG.blk s226 x219 (Option.some_ne_none _)
                      have c228 := (SG.belowR c222 s226 (fun kq e => by cases e))
                      refine h27 _ _ ?_
                      refine wp_seq_k (fun K28 h28 => ?_)
                      refine W.region_plain (row := none) [(0, false), (1, false), (2, true), (3, false), (4, false), (5, false), (6, false), (7, false)] (by kernel_rfl) ?_
                      have s229 := SG.self w225 none
                      refine F.q (v := .agg #[.int .i64 ev, .int .i64 eu]) (hr := (r_load2 rfl (ev_any (by kernel_rfl)) (by kernel_rfl) (by kernel_rfl) (sgS (blk_cell (j := 0) x219 (by kernel_rfl)) (Option.some_ne_none _)) (sgS (blk_cell (j := 1) x219 (by kernel_rfl)) (Option.some_ne_none _)))) (h := ?_)
                      refine F.q (v := .agg #[.int .i64 dv, .int .i64 du]) (hr := (r_load2 rfl (ev_any (by kernel_rfl)) (by kernel_rfl) (by kernel_rfl) (sgS (blk_cell (j := 0) x215 (by kernel_rfl)) (Option.some_ne_none _)) (sgS (blk_cell (j := 1) x215 (by kernel_rfl)) (Option.some_ne_none _)))) (h := ?_)
                      refine W.sc (vs := [.agg #[.int .i64 ev, .int .i64 eu], .agg #[.int .i64 dv, .int .i64 du]]) rfl rfl (by kernel_rfl) (by kernel_rfl) (by kernel_rfl) rfl (CompareAmounts_impl' ev eu dv du _ _ rfl (cmpB_comm dv du ev eu) _ (Flows.later hfl (SG.belowR c228 s229 (fun kq e => by cases e)))) ?_
                      rintro e w231 ⟨rfl, b230⟩
                      have s232 := SG.of_below s229 b230
                      refine ⟨_, rfl, s232, ?_⟩
                      refine F.nx ?_
                      refine F.mv (v := .tuple #[.int .i64 (cmpX ev eu dv du), .bool (cmpB dv du ev eu)]) (h := ?_)
                      refine F.q (v := .int .i64 (cmpX ev eu dv du)) (hr := (r_extract (vs := #[.int .i64 (cmpX ev eu dv du), .bool (cmpB dv du ev eu)]) rfl (ev_any (by kernel_rfl)) (by kernel_rfl))) (h := ?_)
                      refine F.q (v := .bool (cmpB dv du ev eu)) (hr := (r_extract (vs := #[.int .i64 (cmpX ev eu dv du), .bool (cmpB dv du ev eu)]) rfl (ev_any (by kernel_rfl)) (by kernel_rfl))) (h := ?_)
                      refine F.as (v := .int .i64 (cmpX ev eu dv du)) (h := ?_)
                      refine F.as (v := .bool (cmpB dv du ev eu)) (h := ?_)
                      refine F.endF [(0, .slice A n c), (2, .bool false), (25, .pointer (some ⟨b130, 0, none⟩)), (26, .pointer (some ⟨b141, 0, none⟩)), (27, .int .i64 ak), (28, .int .i64 (addX av au ax ay ak)), (29, .int .i64 (addY av au ax ay ak)), (30, .bool (addB av au ax ay ak)), (31, .int .i64 (addX av au ax ay ak)), (32, .int .i64 (addY av au ax ay ak)), (33, .bool (addB av au ax ay ak)), (34, .int .i64 (addX av au ax ay ak)), (35, .int .i64 (addY av au ax ay ak)), (36, .bool (addB av au ax ay ak)), (37, .pointer (some ⟨b186, 0, none⟩)), (38, .pointer (some ⟨b199, 0, none⟩)), (39, .int .i64 (cmpX dv du ev eu)), (40, .bool (cmpB dv du ev eu)), (41, .int .i64 (cmpX ev eu dv du)), (42, .bool (cmpB dv du ev eu)), (220, .bool false)] (fun U233 => ?_)
                      have x25 := SG.blk s232 x25 (Option.some_ne_none _)
                      have x68 := SG.blk s232 x68 (Option.some_ne_none _)
                      have x87 := SG.blk s232 x87 (Option.some_ne_none _)
                      have x108 := SG.blk s232 x108 (Option.some_ne_none _)
                      have x155 := SG.blk s232 x155 (Option.some_ne_none _)
                      have x159 := SG.blk s232 x159 (Option.some_ne_none _)
                      have x215 := SG.blk s232 x215 (Option.some_ne_none _)
                      have x219 := SG.blk s232 x219 (Option.some_ne_none _)
                      have c234 := (SG.belowR c228 s232 (fun kq e => by cases e))
                      refine h28 _ _ ?_
                      refine wp_seq_k (fun K29 h29 => ?_)
                      refine W.region_plain (row := none) [(0, false), (1, false), (2, true), (3, false), (4, false), (5, false), (6, false), (7, false)] (by kernel_rfl) ?_
                      have s235 := SG.self w231 none
                      refine F.q (v := .agg #[.int .i64 dv, .int .i64 du]) (hr := (r_load2 rfl (ev_any (by kernel_rfl)) (by kernel_rfl) (by kernel_rfl) (sgS (blk_cell (j := 0) x215 (by kernel_rfl)) (Option.some_ne_none _)) (sgS (blk_cell (j := 1) x215 (by kernel_rfl)) (Option.some_ne_none _)))) (h := ?_)
                      refine F.q (v := .agg #[.int .i64 ev, .int .i64 eu]) (hr := (r_load2 rfl (ev_any (by kernel_rfl)) (by kernel_rfl) (by kernel_rfl) (sgS (blk_cell (j := 0) x219 (by kernel_rfl)) (Option.some_ne_none _)) (sgS (blk_cell (j := 1) x219 (by kernel_rfl)) (Option.some_ne_none _)))) (h := ?_)
                      refine W.sc (vs := [.agg #[.int .i64 dv, .int .i64 du], .agg #[.int .i64 ev, .int .i64 eu]]) rfl rfl (by kernel_rfl) (by kernel_rfl) (by kernel_rfl) rfl (CompareAmounts_spec' dv du ev eu _ _ rfl rfl _) ?_
                      rintro e w237 ⟨rfl, b236⟩
                      have s238 := SG.of_below s235 b236
                      refine ⟨_, rfl, s238, ?_⟩
                      refine F.nx ?_
                      refine F.mv (v := .tuple #[.int .i64 (cmpX dv du ev eu), .bool (cmpB dv du ev eu)]) (h := ?_)
                      refine F.q (v := .int .i64 (cmpX dv du ev eu)) (hr := (r_extract (vs := #[.int .i64 (cmpX dv du ev eu), .bool (cmpB dv du ev eu)]) rfl (ev_any (by kernel_rfl)) (by kernel_rfl))) (h := ?_)
                      refine F.q (v := .bool (cmpB dv du ev eu)) (hr := (r_extract (vs := #[.int .i64 (cmpX dv du ev eu), .bool (cmpB dv du ev eu)]) rfl (ev_any (by kernel_rfl)) (by kernel_rfl))) (h := ?_)
                      refine F.as (v := .int .i64 (cmpX dv du ev eu)) (h := ?_)
                      refine F.as (v := .bool (cmpB dv du ev eu)) (h := ?_)
                      refine F.endF [(0, .slice A n c), (2, .bool false), (25, .pointer (some ⟨b130, 0, none⟩)), (26, .pointer (some ⟨b141, 0, none⟩)), (27, .int .i64 ak), (28, .int .i64 (addX av au ax ay ak)), (29, .int .i64 (addY av au ax ay ak)), (30, .bool (addB av au ax ay ak)), (31, .int .i64 (addX av au ax ay ak)), (32, .int .i64 (addY av au ax ay ak)), (33, .bool (addB av au ax ay ak)), (34, .int .i64 (addX av au ax ay ak)), (35, .int .i64 (addY av au ax ay ak)), (36, .bool (addB av au ax ay ak)), (37, .pointer (some ⟨b186, 0, none⟩)), (38, .pointer (some ⟨b199, 0, none⟩)), (39, .int .i64 (cmpX dv du ev eu)), (40, .bool (cmpB dv du ev eu)), (41, .int .i64 (cmpX ev eu dv du)), (42, .bool (cmpB dv du ev eu)), (43, .int .i64 (cmpX dv du ev eu)), (44, .bool (cmpB dv du ev eu)), (220, .bool false)] (fun U239 => ?_)
                      have x25 := SG.blk s238 x25 (Option.some_ne_none _)
                      have x68 := SG.blk s238 x68 (Option.some_ne_none _)
                      have x87 := SG.blk s238 x87 (Option.some_ne_none _)
                      have x108 := SG.blk s238 x108 (Option.some_ne_none _)
                      have x155 := SG.blk s238 x155 (Option.some_ne_none _)
                      have x159 := SG.blk s238 x159 (Option.some_ne_none _)
                      have x215 := SG.blk s238 x215 (Option.some_ne_none _)
                      have x219 := SG.blk s238 x219 (Option.some_ne_none _)
                      have c240 := (SG.belowR c234 s238 (fun kq e => by cases e))
                      refine h29 _ _ ?_
                      as_aux_lemma =>
                        refine wp_seq_k (fun K30 h30 => ?_)
                        refine W.region_quiet [(0, false), (1, false), (2, false), (3, false), (4, false), (5, false), (6, false), (7, false), (8, false), (9, false), (10, false), (11, false), (12, false), (13, false), (14, false), (15, false), (16, false), (17, false), (18, false), (19, false), (20, false), (21, false), (22, false), (23, false), (24, false)] (by kernel_rfl) ?_
                        refine F.mv (v := .int .i64 (cmpX dv du ev eu)) (h := ?_)
                        refine F.mv (v := .int .i64 (cmpX dv du ev eu)) (h := ?_)
                        refine F.q (v := .bool true) (hr := (r_eql (m := (cmpX dv du ev eu)) (n := (cmpX dv du ev eu)) rfl (ev_any (by kernel_rfl)) (ev_any (by kernel_rfl)) (decide_eq_true (by omega)))) (h := ?_)
                        refine F.mv (v := .bool true) (h := ?_)
                        refine F.mv (v := .bool (cmpB dv du ev eu)) (h := ?_)
                        refine F.mv (v := .bool (cmpB dv du ev eu)) (h := ?_)
                        refine F.q (v := .bool true) (hr := (r_eqlB (m := (cmpB dv du ev eu)) (n := (cmpB dv du ev eu)) rfl (ev_any (by kernel_rfl)) (ev_any (by kernel_rfl)) (by kernel_rfl) (beq_iff_eq.2 rfl))) (h := ?_)
                        refine F.q (v := .bool true) (hr := (r_pick (b := true) rfl (ev_any (by kernel_rfl)) (ev_any (by kernel_rfl)))) (h := ?_)
                        refine F.mv (v := .bool true) (h := ?_)
                        refine F.mv (v := .bool (cmpB dv du ev eu)) (h := ?_)
                        refine F.mv (v := .bool (cmpB dv du ev eu)) (h := ?_)
                        refine F.q (v := .bool true) (hr := (r_eqlB (m := (cmpB dv du ev eu)) (n := (cmpB dv du ev eu)) rfl (ev_any (by kernel_rfl)) (ev_any (by kernel_rfl)) (by kernel_rfl) (beq_iff_eq.2 rfl))) (h := ?_)
                        refine F.q (v := .bool true) (hr := (r_pick (b := true) rfl (ev_any (by kernel_rfl)) (ev_any (by kernel_rfl)))) (h := ?_)
                        refine F.mv (v := .bool true) (h := ?_)
                        refine F.mv (v := .bool (cmpB dv du ev eu)) (h := ?_)
                        rcases Bool.eq_false_or_eq_true (cmpB dv du ev eu) with q241 | q241
                        · rw [q241]
                          refine F.q (v := .bool false) (hr := (r_not (b := true) rfl (ev_any (by kernel_rfl)) rfl)) (h := ?_)
                          refine F.mv (v := .bool false) (h := ?_)
                          refine F.mv (v := .int .i64 (cmpX dv du ev eu)) (h := ?_)
                          refine F.mv (v := .int .i64 (cmpX ev eu dv du)) (h := ?_)
                          have hs9 := cmp_sum dv du ev eu
                          refine F.q (v := .int .i64 ((cmpX dv du ev eu) + (cmpX ev eu dv du))) (hr := (r_add (m := (cmpX dv du ev eu)) (n := (cmpX ev eu dv du)) (z := (cmpX dv du ev eu) + (cmpX ev eu dv du)) rfl (ev_any (by kernel_rfl)) (ev_any (by kernel_rfl)) (rfl) (by omega))) (h := ?_)
                          refine F.q (v := .int .i64 0) (hr := (r_remK (k := .i64) (m := (cmpX dv du ev eu) + (cmpX ev eu dv du)) (n := 3) (z := 0) rfl (ev_any (by kernel_rfl)) (ev_any (by kernel_rfl)) (by omega) ((by rcases hs9 with h9 | h9 <;> rw [h9] <;> rfl)))) (h := ?_)
                          refine F.q (v := .bool true) (hr := (r_eql (m := 0) (n := 0) rfl (ev_any (by kernel_rfl)) (ev_any (by kernel_rfl)) (decide_eq_true (rfl)))) (h := ?_)
                          refine F.q (v := .bool true) (hr := (r_pick (b := false) rfl (ev_any (by kernel_rfl)) (ev_any (by kernel_rfl)))) (h := ?_)
                          refine F.q (v := .bool true) (hr := (r_pick (b := true) rfl (ev_any (by kernel_rfl)) (ev_any (by kernel_rfl)))) (h := ?_)
                          refine F.as (v := .bool true) (h := ?_)
                          refine F.endF [(0, .slice A n c), (2, .bool true), (25, .pointer (some ⟨b130, 0, none⟩)), (26, .pointer (some ⟨b141, 0, none⟩)), (27, .int .i64 ak), (28, .int .i64 (addX av au ax ay ak)), (29, .int .i64 (addY av au ax ay ak)), (30, .bool (addB av au ax ay ak)), (31, .int .i64 (addX av au ax ay ak)), (32, .int .i64 (addY av au ax ay ak)), (33, .bool (addB av au ax ay ak)), (34, .int .i64 (addX av au ax ay ak)), (35, .int .i64 (addY av au ax ay ak)), (36, .bool (addB av au ax ay ak)), (37, .pointer (some ⟨b186, 0, none⟩)), (38, .pointer (some ⟨b199, 0, none⟩)), (39, .int .i64 (cmpX dv du ev eu)), (40, .bool true), (41, .int .i64 (cmpX ev eu dv du)), (42, .bool true), (43, .int .i64 (cmpX dv du ev eu)), (44, .bool true), (220, .bool false)] (fun U242 => ?_)
                          refine h30 _ _ ?_
                          refine wp_ret ?_
                          try simp only [Exit.then]
                          refine ret1 (v := .bool true) rfl (by kernel_rfl) ?_
                          exact ⟨rfl, c240⟩
                        · rw [q241]
                          refine F.q (v := .bool true) (hr := (r_not (b := false) rfl (ev_any (by kernel_rfl)) rfl)) (h := ?_)
                          refine F.mv (v := .bool true) (h := ?_)
                          refine F.sp rfl (h := ?_)
                          refine F.sp rfl (h := ?_)
                          refine F.sp rfl (h := ?_)
                          refine F.sp rfl (h := ?_)
                          refine F.sp rfl (h := ?_)
                          refine F.q (v := .bool true) (hr := (r_pick (b := true) rfl (ev_any (by kernel_rfl)) (ev_any (by kernel_rfl)))) (h := ?_)
                          refine F.q (v := .bool true) (hr := (r_pick (b := true) rfl (ev_any (by kernel_rfl)) (ev_any (by kernel_rfl)))) (h := ?_)
                          refine F.as (v := .bool true) (h := ?_)
                          refine F.endF [(0, .slice A n c), (2, .bool true), (25, .pointer (some ⟨b130, 0, none⟩)), (26, .pointer (some ⟨b141, 0, none⟩)), (27, .int .i64 ak), (28, .int .i64 (addX av au ax ay ak)), (29, .int .i64 (addY av au ax ay ak)), (30, .bool (addB av au ax ay ak)), (31, .int .i64 (addX av au ax ay ak)), (32, .int .i64 (addY av au ax ay ak)), (33, .bool (addB av au ax ay ak)), (34, .int .i64 (addX av au ax ay ak)), (35, .int .i64 (addY av au ax ay ak)), (36, .bool (addB av au ax ay ak)), (37, .pointer (some ⟨b186, 0, none⟩)), (38, .pointer (some ⟨b199, 0, none⟩)), (39, .int .i64 (cmpX dv du ev eu)), (40, .bool false), (41, .int .i64 (cmpX ev eu dv du)), (42, .bool false), (43, .int .i64 (cmpX dv du ev eu)), (44, .bool false), (220, .bool false)] (fun U243 => ?_)
                          refine h30 _ _ ?_
                          refine wp_ret ?_
                          try simp only [Exit.then]
                          refine ret1 (v := .bool true) rfl (by kernel_rfl) ?_
                          exact ⟨rfl, c240⟩
              intro K31 h31
              refine wp_seq_k (fun K32 h32 => ?_)
              refine W.region_quiet [(0, false), (1, false), (2, false), (3, false), (4, false), (5, false), (6, false), (7, false), (8, false)] (by kernel_rfl) ?_
              refine F.mv (v := .bool (convB cv cu ck)) (h := ?_)
              refine F.mv (v := .bool (convB cv cu ck)) (h := ?_)
              rcases Bool.eq_false_or_eq_true (convB cv cu ck) with q244 | q244
              · rw [q244]
                refine F.mv (v := .int .i64 (convY cv cu ck)) (h := ?_)
                by_cases q245 : ((convY cv cu ck) : Int) = (1 : Int)
                · refine F.q (v := .bool true) (hr := (r_eql (m := (convY cv cu ck)) (n := 1) rfl (ev_any (by kernel_rfl)) (ev_any (by kernel_rfl)) (decide_eq_true q245))) (h := ?_)
                  refine F.q (v := .bool true) (hr := (r_pick (b := true) rfl (ev_any (by kernel_rfl)) (ev_any (by kernel_rfl)))) (h := ?_)
                  refine F.mv (v := .bool true) (h := ?_)
                  refine F.mv (v := .int .i64 (convX cv cu ck)) (h := ?_)
                  by_cases q246 : ((convX cv cu ck) : Int) ≤ (1000000 : Int)
                  · have hcc := conv_cmp q244 q245 q246
                    refine F.q (v := .bool true) (hr := (r_leq (m := (convX cv cu ck)) (n := 1000000) rfl (ev_any (by kernel_rfl)) (ev_any (by kernel_rfl)) (decide_eq_true q246))) (h := ?_)
                    refine F.q (v := .bool true) (hr := (r_pick (b := true) rfl (ev_any (by kernel_rfl)) (ev_any (by kernel_rfl)))) (h := ?_)
                    refine F.endF [(0, .slice A n c), (2, .bool false), (10, .string t), (11, .pointer (some ⟨b58, 0, none⟩)), (12, .bool (ParseAmount_v1 t)), (13, .pointer (some ⟨b76, 0, none⟩)), (14, .bool (ParseAmount_v1 t)), (15, .pointer (some ⟨b96, 0, none⟩)), (16, .int .i64 ck), (17, .int .i64 (convX cv cu ck)), (18, .int .i64 (convY cv cu ck)), (19, .bool true), (20, .int .i64 (convX cv cu ck)), (21, .int .i64 (convY cv cu ck)), (22, .bool true), (107, .bool false), (139, .bool false), (148, .bool true)] (fun U247 => ?_)
                    refine h32 _ _ ?_
                    as_aux_lemma =>
                      refine wp_cond_true (by kernel_rfl) ?_
                      refine wp_seq_k (fun K33 h33 => ?_)
                      refine W.region_plain (row := none) [(0, false), (1, false), (2, false), (3, false), (4, true), (5, false), (6, false), (7, false), (8, false), (9, false)] (by kernel_rfl) ?_
                      have s248 := SG.self w120 none
                      refine F.q (v := .agg #[.int .i64 cv, .int .i64 cu]) (hr := (r_load2 rfl (ev_any (by kernel_rfl)) (by kernel_rfl) (by kernel_rfl) (sgS (blk_cell (j := 0) x108 (by kernel_rfl)) (Option.some_ne_none _)) (sgS (blk_cell (j := 1) x108 (by kernel_rfl)) (Option.some_ne_none _)))) (h := ?_)
                      refine F.mv (v := .int .i64 (convX cv cu ck)) (h := ?_)
                      refine F.mv (v := .int .i64 ck) (h := ?_)
                      refine F.q (v := .agg #[.int .i64 (convX cv cu ck), .int .i64 ck]) (hr := (r_build rfl (vs := [(0, .int .i64 (convX cv cu ck)), (1, .int .i64 ck)]) (by kernel_rfl) (by kernel_rfl))) (h := ?_)
                      refine W.sc (vs := [.agg #[.int .i64 cv, .int .i64 cu], .agg #[.int .i64 (convX cv cu ck), .int .i64 ck]]) rfl rfl (by kernel_rfl) (by kernel_rfl) (by kernel_rfl) rfl (CompareAmounts_impl' cv cu (convX cv cu ck) ck _ _ rfl rfl _ (Flows.later hfl (SG.belowR c123 s248 (fun kq e => by cases e)))) ?_
                      rintro e w250 ⟨rfl, b249⟩
                      have s251 := SG.of_below s248 b249
                      refine ⟨_, rfl, s251, ?_⟩
                      refine F.nx ?_
                      refine F.mv (v := .tuple #[.int .i64 (cmpX cv cu (convX cv cu ck) ck), .bool (cmpB cv cu (convX cv cu ck) ck)]) (h := ?_)
                      refine F.q (v := .int .i64 (cmpX cv cu (convX cv cu ck) ck)) (hr := (r_extract (vs := #[.int .i64 (cmpX cv cu (convX cv cu ck) ck), .bool (cmpB cv cu (convX cv cu ck) ck)]) rfl (ev_any (by kernel_rfl)) (by kernel_rfl))) (h := ?_)
                      refine F.q (v := .bool (cmpB cv cu (convX cv cu ck) ck)) (hr := (r_extract (vs := #[.int .i64 (cmpX cv cu (convX cv cu ck) ck), .bool (cmpB cv cu (convX cv cu ck) ck)]) rfl (ev_any (by kernel_rfl)) (by kernel_rfl))) (h := ?_)
                      refine F.as (v := .int .i64 (cmpX cv cu (convX cv cu ck) ck)) (h := ?_)
                      refine F.as (v := .bool (cmpB cv cu (convX cv cu ck) ck)) (h := ?_)
                      refine F.endF [(0, .slice A n c), (2, .bool false), (10, .string t), (11, .pointer (some ⟨b58, 0, none⟩)), (12, .bool (ParseAmount_v1 t)), (13, .pointer (some ⟨b76, 0, none⟩)), (14, .bool (ParseAmount_v1 t)), (15, .pointer (some ⟨b96, 0, none⟩)), (16, .int .i64 ck), (17, .int .i64 (convX cv cu ck)), (18, .int .i64 (convY cv cu ck)), (19, .bool true), (20, .int .i64 (convX cv cu ck)), (21, .int .i64 (convY cv cu ck)), (22, .bool true), (23, .int .i64 (cmpX cv cu (convX cv cu ck) ck)), (24, .bool (cmpB cv cu (convX cv cu ck) ck)), (107, .bool false), (139, .bool false), (148, .bool true)] (fun U252 => ?_)
                      have x25 := SG.blk s251 x25 (Option.some_ne_none _)
                      have x68 := SG.blk s251 x68 (Option.some_ne_none _)
                      have x87 := SG.blk s251 x87 (Option.some_ne_none _)
                      have x108 := SG.blk s251 x108 (Option.some_ne_none _)
                      have c253 := (SG.belowR c123 s251 (fun kq e => by cases e))
                      refine h33 _ _ ?_
                      refine wp_seq_k (fun K34 h34 => ?_)
                      refine W.region_quiet [(0, false), (1, false), (2, false), (3, false), (4, false), (5, false)] (by kernel_rfl) ?_
                      refine F.mv (v := .bool (cmpB cv cu (convX cv cu ck) ck)) (h := ?_)
                      have q254 : (cmpB cv cu (convX cv cu ck) ck) = true := hcc.1
                      rw [q254]
                      refine F.q (v := .bool false) (hr := (r_not (b := true) rfl (ev_any (by kernel_rfl)) rfl)) (h := ?_)
                      refine F.mv (v := .bool false) (h := ?_)
                      refine F.mv (v := .int .i64 (cmpX cv cu (convX cv cu ck) ck)) (h := ?_)
                      refine F.q (v := .bool false) (hr := (r_neq (m := (cmpX cv cu (convX cv cu ck) ck)) (n := 0) rfl (ev_any (by kernel_rfl)) (ev_any (by kernel_rfl)) (decide_eq_false (by rw [hcc.2]; omega)))) (h := ?_)
                      refine F.q (v := .bool false) (hr := (r_pick (b := false) rfl (ev_any (by kernel_rfl)) (ev_any (by kernel_rfl)))) (h := ?_)
                      refine F.endF [(0, .slice A n c), (2, .bool false), (10, .string t), (11, .pointer (some ⟨b58, 0, none⟩)), (12, .bool (ParseAmount_v1 t)), (13, .pointer (some ⟨b76, 0, none⟩)), (14, .bool (ParseAmount_v1 t)), (15, .pointer (some ⟨b96, 0, none⟩)), (16, .int .i64 ck), (17, .int .i64 (convX cv cu ck)), (18, .int .i64 (convY cv cu ck)), (19, .bool true), (20, .int .i64 (convX cv cu ck)), (21, .int .i64 (convY cv cu ck)), (22, .bool true), (23, .int .i64 (cmpX cv cu (convX cv cu ck) ck)), (24, .bool true), (107, .bool false), (139, .bool false), (148, .bool true), (162, .bool false)] (fun U255 => ?_)
                      refine h34 _ _ ?_
                      refine wp_cond_false (by kernel_rfl) ?_
                      refine wp_skip ?_
                      exact h31 _ _ _ ⟨(fun iU9 => lk [(0, .slice A n c), (2, .bool false), (10, .string t), (11, .pointer (some ⟨b58, 0, none⟩)), (12, .bool (ParseAmount_v1 t)), (13, .pointer (some ⟨b76, 0, none⟩)), (14, .bool (ParseAmount_v1 t)), (15, .pointer (some ⟨b96, 0, none⟩)), (16, .int .i64 ck), (17, .int .i64 (convX cv cu ck)), (18, .int .i64 (convY cv cu ck)), (19, .bool true), (20, .int .i64 (convX cv cu ck)), (21, .int .i64 (convY cv cu ck)), (22, .bool true), (23, .int .i64 (cmpX cv cu (convX cv cu ck) ck)), (24, .bool true), (107, .bool false), (139, .bool false), (148, .bool true), (162, .bool false)] iU9 (U255 iU9)), (by kernel_rfl), rfl, x25, x68, x87, x108, c253⟩
                  · refine F.q (v := .bool false) (hr := (r_leq (m := (convX cv cu ck)) (n := 1000000) rfl (ev_any (by kernel_rfl)) (ev_any (by kernel_rfl)) (decide_eq_false q246))) (h := ?_)
                    refine F.q (v := .bool false) (hr := (r_pick (b := true) rfl (ev_any (by kernel_rfl)) (ev_any (by kernel_rfl)))) (h := ?_)
                    refine F.endF [(0, .slice A n c), (2, .bool false), (10, .string t), (11, .pointer (some ⟨b58, 0, none⟩)), (12, .bool (ParseAmount_v1 t)), (13, .pointer (some ⟨b76, 0, none⟩)), (14, .bool (ParseAmount_v1 t)), (15, .pointer (some ⟨b96, 0, none⟩)), (16, .int .i64 ck), (17, .int .i64 (convX cv cu ck)), (18, .int .i64 (convY cv cu ck)), (19, .bool true), (20, .int .i64 (convX cv cu ck)), (21, .int .i64 (convY cv cu ck)), (22, .bool true), (107, .bool false), (139, .bool false), (148, .bool false)] (fun U256 => ?_)
                    refine h32 _ _ ?_
                    refine wp_cond_false (by kernel_rfl) ?_
                    refine wp_skip ?_
                    exact h31 _ _ _ ⟨(fun iU9 => lk [(0, .slice A n c), (2, .bool false), (10, .string t), (11, .pointer (some ⟨b58, 0, none⟩)), (12, .bool (ParseAmount_v1 t)), (13, .pointer (some ⟨b76, 0, none⟩)), (14, .bool (ParseAmount_v1 t)), (15, .pointer (some ⟨b96, 0, none⟩)), (16, .int .i64 ck), (17, .int .i64 (convX cv cu ck)), (18, .int .i64 (convY cv cu ck)), (19, .bool true), (20, .int .i64 (convX cv cu ck)), (21, .int .i64 (convY cv cu ck)), (22, .bool true), (107, .bool false), (139, .bool false), (148, .bool false)] iU9 (U256 iU9)), (by kernel_rfl), rfl, x25, x68, x87, x108, c123⟩
                · refine F.q (v := .bool false) (hr := (r_eql (m := (convY cv cu ck)) (n := 1) rfl (ev_any (by kernel_rfl)) (ev_any (by kernel_rfl)) (decide_eq_false q245))) (h := ?_)
                  refine F.q (v := .bool false) (hr := (r_pick (b := true) rfl (ev_any (by kernel_rfl)) (ev_any (by kernel_rfl)))) (h := ?_)
                  refine F.mv (v := .bool false) (h := ?_)
                  refine F.sp rfl (h := ?_)
                  refine F.sp rfl (h := ?_)
                  refine F.q (v := .bool false) (hr := (r_pick (b := false) rfl (ev_any (by kernel_rfl)) (ev_any (by kernel_rfl)))) (h := ?_)
                  refine F.endF [(0, .slice A n c), (2, .bool false), (10, .string t), (11, .pointer (some ⟨b58, 0, none⟩)), (12, .bool (ParseAmount_v1 t)), (13, .pointer (some ⟨b76, 0, none⟩)), (14, .bool (ParseAmount_v1 t)), (15, .pointer (some ⟨b96, 0, none⟩)), (16, .int .i64 ck), (17, .int .i64 (convX cv cu ck)), (18, .int .i64 (convY cv cu ck)), (19, .bool true), (20, .int .i64 (convX cv cu ck)), (21, .int .i64 (convY cv cu ck)), (22, .bool true), (107, .bool false), (139, .bool false), (148, .bool false)] (fun U257 => ?_)
                  refine h32 _ _ ?_
                  refine wp_cond_false (by kernel_rfl) ?_
                  refine wp_skip ?_
                  exact h31 _ _ _ ⟨(fun iU9 => lk [(0, .slice A n c), (2, .bool false), (10, .string t), (11, .pointer (some ⟨b58, 0, none⟩)), (12, .bool (ParseAmount_v1 t)), (13, .pointer (some ⟨b76, 0, none⟩)), (14, .bool (ParseAmount_v1 t)), (15, .pointer (some ⟨b96, 0, none⟩)), (16, .int .i64 ck), (17, .int .i64 (convX cv cu ck)), (18, .int .i64 (convY cv cu ck)), (19, .bool true), (20, .int .i64 (convX cv cu ck)), (21, .int .i64 (convY cv cu ck)), (22, .bool true), (107, .bool false), (139, .bool false), (148, .bool false)] iU9 (U257 iU9)), (by kernel_rfl), rfl, x25, x68, x87, x108, c123⟩
              · rw [q244]
                refine F.sp rfl (h := ?_)
                refine F.sp rfl (h := ?_)
                refine F.q (v := .bool false) (hr := (r_pick (b := false) rfl (ev_any (by kernel_rfl)) (ev_any (by kernel_rfl)))) (h := ?_)
                refine F.mv (v := .bool false) (h := ?_)
                refine F.sp rfl (h := ?_)
                refine F.sp rfl (h := ?_)
                refine F.q (v := .bool false) (hr := (r_pick (b := false) rfl (ev_any (by kernel_rfl)) (ev_any (by kernel_rfl)))) (h := ?_)
                refine F.endF [(0, .slice A n c), (2, .bool false), (10, .string t), (11, .pointer (some ⟨b58, 0, none⟩)), (12, .bool (ParseAmount_v1 t)), (13, .pointer (some ⟨b76, 0, none⟩)), (14, .bool (ParseAmount_v1 t)), (15, .pointer (some ⟨b96, 0, none⟩)), (16, .int .i64 ck), (17, .int .i64 (convX cv cu ck)), (18, .int .i64 (convY cv cu ck)), (19, .bool false), (20, .int .i64 (convX cv cu ck)), (21, .int .i64 (convY cv cu ck)), (22, .bool false), (107, .bool false), (139, .bool false), (148, .bool false)] (fun U258 => ?_)
                refine h32 _ _ ?_
                as_aux_lemma =>
                  refine wp_cond_false (by kernel_rfl) ?_
                  refine wp_skip ?_
                  exact h31 _ _ _ ⟨(fun iU9 => lk [(0, .slice A n c), (2, .bool false), (10, .string t), (11, .pointer (some ⟨b58, 0, none⟩)), (12, .bool (ParseAmount_v1 t)), (13, .pointer (some ⟨b76, 0, none⟩)), (14, .bool (ParseAmount_v1 t)), (15, .pointer (some ⟨b96, 0, none⟩)), (16, .int .i64 ck), (17, .int .i64 (convX cv cu ck)), (18, .int .i64 (convY cv cu ck)), (19, .bool false), (20, .int .i64 (convX cv cu ck)), (21, .int .i64 (convY cv cu ck)), (22, .bool false), (107, .bool false), (139, .bool false), (148, .bool false)] iU9 (U258 iU9)), (by kernel_rfl), rfl, x25, x68, x87, x108, c123⟩
      intro K35 h35
      refine wp_seq_k (fun K36 h36 => ?_)
      refine W.region_plain (row := none) [(0, false), (1, true), (2, false), (3, false), (4, false), (5, true), (6, true), (7, false)] (by kernel_rfl) ?_
      have s259 := SG.self w43 none
      refine F.mv (v := .string (AmountText_v0 v u)) (h := ?_)
      refine W.sc (vs := [.string (AmountText_v0 v u)]) rfl rfl (by kernel_rfl) (by kernel_rfl) (by kernel_rfl) rfl (ParseAmount_impl (AmountText_v0 v u) _ (by omega) (max_kept hmax (SG.belowR c46 s259 (fun kq e => by cases e))) (tab_kept htab (SG.belowR c46 s259 (fun kq e => by cases e))) (names_kept hnm (SG.belowR c46 s259 (fun kq e => by cases e))) (ev_kept hev (SG.belowR c46 s259 (fun kq e => by cases e)))) ?_
      rintro e w261 ⟨rfl, b260⟩
      have s262 := SG.of_below s259 b260
      refine ⟨_, rfl, s262, ?_⟩
      refine F.nx ?_
      refine F.mv (v := .tuple #[.agg #[.int .i64 (ParseAmount_vv (AmountText_v0 v u)), .int .i64 (ParseAmount_vu (AmountText_v0 v u))], .bool (ParseAmount_v1 (AmountText_v0 v u))]) (h := ?_)
      refine F.q (v := .agg #[.int .i64 (ParseAmount_vv (AmountText_v0 v u)), .int .i64 (ParseAmount_vu (AmountText_v0 v u))]) (hr := (r_extract (vs := #[.agg #[.int .i64 (ParseAmount_vv (AmountText_v0 v u)), .int .i64 (ParseAmount_vu (AmountText_v0 v u))], .bool (ParseAmount_v1 (AmountText_v0 v u))]) rfl (ev_any (by kernel_rfl)) (by kernel_rfl))) (h := ?_)
      refine F.q (v := .bool (ParseAmount_v1 (AmountText_v0 v u))) (hr := (r_extract (vs := #[.agg #[.int .i64 (ParseAmount_vv (AmountText_v0 v u)), .int .i64 (ParseAmount_vu (AmountText_v0 v u))], .bool (ParseAmount_v1 (AmountText_v0 v u))]) rfl (ev_any (by kernel_rfl)) (by kernel_rfl))) (h := ?_)
      refine W.sn (fun b => .pointer (some ⟨b, 0, none⟩)) #[.int .i64 0, .int .i64 0] 26 s262 rfl (by kernel_rfl) rfl (fun _ => by kernel_rfl) (fun b263 w264 hb265 k266 x267 s268 => ?_)
      refine F.nx ?_
      have lo269 : w.heap.size ≤ b263 := Nat.le_trans ((SG.belowR c46 s262 (fun kq e => by cases e))).size (Nat.le_of_eq hb265)
      have ne270 : b16 ≠ b263 := Nat.ne_of_lt (Nat.lt_of_lt_of_eq (Nat.lt_of_lt_of_le (blk_lt x25) (s262).size) hb265)
      refine W.ss (v := .agg #[.int .i64 (ParseAmount_vv (AmountText_v0 v u)), .int .i64 (ParseAmount_vu (AmountText_v0 v u))]) (j := 0) (news := [.int .i64 (ParseAmount_vv (AmountText_v0 v u)), .int .i64 (ParseAmount_vu (AmountText_v0 v u))]) (cs' := #[.int .i64 (ParseAmount_vv (AmountText_v0 v u)), .int .i64 (ParseAmount_vu (AmountText_v0 v u))]) s268 rfl (by kernel_rfl) rfl rfl (by kernel_rfl) (by kernel_rfl) x267 (by kernel_rfl) (by kernel_rfl) (by simp) (by kernel_rfl) (by kernel_rfl) (.inr (Nat.le_trans (s262).size (Nat.le_of_eq hb265))) (fun w271 g272 x273 s274 => ?_)
      refine F.as (v := .bool (ParseAmount_v1 (AmountText_v0 v u))) (h := ?_)
      refine F.endF [(0, .slice A n c), (2, .bool false), (3, .pointer (some ⟨b16, 0, none⟩)), (4, .string (AmountText_v0 v u)), (5, .bool (AmountText_v1 v u)), (6, .string (AmountText_v0 v u)), (7, .bool (AmountText_v1 v u)), (8, .pointer (some ⟨b263, 0, none⟩)), (9, .bool (ParseAmount_v1 (AmountText_v0 v u))), (46, .bool false), (72, .bool false)] (fun U275 => ?_)
      have x25 := SG.blk s274 x25 (Option.some_ne_none _)
      have c276 := (SG.belowR c46 s274 (fun kq e => by cases e))
      refine h36 _ _ ?_
      refine wp_seq_k (fun K37 h37 => ?_)
      refine W.region_quiet [(0, false), (1, false), (2, false), (3, false), (4, false), (5, false), (6, false), (7, false), (8, false), (9, false)] (by kernel_rfl) ?_
      refine F.mv (v := .bool (AmountText_v1 v u)) (h := ?_)
      refine F.mv (v := .bool (AmountText_v1 v u)) (h := ?_)
      rcases Bool.eq_false_or_eq_true (AmountText_v1 v u) with q277 | q277
      · rw [q277]
        refine F.mv (v := .bool (ParseAmount_v1 (AmountText_v0 v u))) (h := ?_)
        have q278 : (ParseAmount_v1 (AmountText_v0 v u)) = true := (text_amt q277).1
        rw [q278]
        refine F.q (v := .bool false) (hr := (r_not (b := true) rfl (ev_any (by kernel_rfl)) rfl)) (h := ?_)
        refine F.mv (v := .bool false) (h := ?_)
        refine F.q (v := .agg #[.int .i64 (ParseAmount_vv (AmountText_v0 v u)), .int .i64 (ParseAmount_vu (AmountText_v0 v u))]) (hr := (r_load2 rfl (ev_any (by kernel_rfl)) (by kernel_rfl) (by kernel_rfl) (eqS (blk_cell (j := 0) x273 (by kernel_rfl))) (eqS (blk_cell (j := 1) x273 (by kernel_rfl))))) (h := ?_)
        refine F.q (v := .agg #[.int .i64 v, .int .i64 u]) (hr := (r_load2 rfl (ev_any (by kernel_rfl)) (by kernel_rfl) (by kernel_rfl) (eqS (blk_cell (j := 0) x25 (by kernel_rfl))) (eqS (blk_cell (j := 1) x25 (by kernel_rfl))))) (h := ?_)
        refine F.q (v := .bool false) (hr := (r_neq_Amount (a1 := (ParseAmount_vv (AmountText_v0 v u))) (a2 := (ParseAmount_vu (AmountText_v0 v u))) (b1 := v) (b2 := u) rfl (ev_any (by kernel_rfl)) (ev_any (by kernel_rfl)) (decide_eq_true ⟨(text_amt q277).2.1, (text_amt q277).2.2⟩))) (h := ?_)
        refine F.q (v := .bool false) (hr := (r_pick (b := false) rfl (ev_any (by kernel_rfl)) (ev_any (by kernel_rfl)))) (h := ?_)
        refine F.q (v := .bool false) (hr := (r_pick (b := true) rfl (ev_any (by kernel_rfl)) (ev_any (by kernel_rfl)))) (h := ?_)
        refine F.endF [(0, .slice A n c), (2, .bool false), (3, .pointer (some ⟨b16, 0, none⟩)), (4, .string (AmountText_v0 v u)), (5, .bool true), (6, .string (AmountText_v0 v u)), (7, .bool true), (8, .pointer (some ⟨b263, 0, none⟩)), (9, .bool true), (46, .bool false), (72, .bool false), (87, .bool false)] (fun U279 => ?_)
        refine h37 _ _ ?_
        refine wp_cond_false (by kernel_rfl) ?_
        refine wp_skip ?_
        exact h35 _ _ _ ⟨(fun iU9 => lk [(0, .slice A n c), (2, .bool false), (3, .pointer (some ⟨b16, 0, none⟩)), (4, .string (AmountText_v0 v u)), (5, .bool true), (6, .string (AmountText_v0 v u)), (7, .bool true), (8, .pointer (some ⟨b263, 0, none⟩)), (9, .bool true), (46, .bool false), (72, .bool false), (87, .bool false)] iU9 (U279 iU9)), (by kernel_rfl), rfl, x25, c276⟩
      · rw [q277]
        refine F.sp rfl (h := ?_)
        refine F.sp rfl (h := ?_)
        refine F.sp rfl (h := ?_)
        refine F.sp rfl (h := ?_)
        refine F.sp rfl (h := ?_)
        refine F.sp rfl (h := ?_)
        refine F.sp rfl (h := ?_)
        refine F.q (v := .bool false) (hr := (r_pick (b := false) rfl (ev_any (by kernel_rfl)) (ev_any (by kernel_rfl)))) (h := ?_)
        refine F.endF [(0, .slice A n c), (2, .bool false), (3, .pointer (some ⟨b16, 0, none⟩)), (4, .string (AmountText_v0 v u)), (5, .bool false), (6, .string (AmountText_v0 v u)), (7, .bool false), (8, .pointer (some ⟨b263, 0, none⟩)), (9, .bool (ParseAmount_v1 (AmountText_v0 v u))), (46, .bool false), (72, .bool false), (87, .bool false)] (fun U280 => ?_)
        refine h37 _ _ ?_
        refine wp_cond_false (by kernel_rfl) ?_
        refine wp_skip ?_
        exact h35 _ _ _ ⟨(fun iU9 => lk [(0, .slice A n c), (2, .bool false), (3, .pointer (some ⟨b16, 0, none⟩)), (4, .string (AmountText_v0 v u)), (5, .bool false), (6, .string (AmountText_v0 v u)), (7, .bool false), (8, .pointer (some ⟨b263, 0, none⟩)), (9, .bool (ParseAmount_v1 (AmountText_v0 v u))), (46, .bool false), (72, .bool false), (87, .bool false)] iU9 (U280 iU9)), (by kernel_rfl), rfl, x25, c276⟩

theorem byte_of {n : Int} (h : (Lit.int .u8 n).wf = true) : 0 ≤ n ∧ n < 256 := by
  have h2 : (decide ((0 : Int) ≤ n) && decide (n ≤ 255)) = true := h
  simp only [Bool.and_eq_true, decide_eq_true_eq] at h2
  omega

theorem w_FnAmounts (x0 : Option Addr) (n0 p0 : Nat) (a0 : List Int) (w : World) (H0 : a0.length = n0 ∧ Rd w 1 x0 n0 (a0.map (Value.int .u8)) ∧ n0 ≤ maxLen ∧ ∀ n ∈ a0, (Lit.int .u8 n).wf = true) (htab : Lib.TabIs Tryd.prog w "internal/strconv.uint64pow10" .u64 Lib.pow10Tab) (hfl : Flows w) (hnm : Names w) (hmax : MaxIs w) (hev : EvIs w) :
    Calls Tryd.prog 11 #[.slice x0 n0 p0] w fun e w' => e = .returned (.bool true) ∧ Below w.heap.size w w' :=
  wi_FnAmounts x0 n0 p0 a0 w H0.2.1 (fun z hz => byte_of (H0.2.2.2 z hz)) (by have := H0.2.2.1; unfold maxLen at this; omega) htab hfl hnm hmax hev

end Go.Proofs.YtlkphjlabmnjiaaDoor
