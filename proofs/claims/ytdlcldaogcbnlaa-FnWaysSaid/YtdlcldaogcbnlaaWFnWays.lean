/- The walk of the law FnWays. -/
import Derived.Test.YtdlcldaogcbnlaaVLib
import Derived.Test.YtdlcldaogcbnlaaDrawN
import Derived.Test.YtdlcldaogcbnlaaWayLP
import Derived.Test.YtdlcldaogcbnlaaRows
import Derived.Test.YtdlcldaogcbnlaaFr
namespace Go.Proofs.Ytdlcldaogcbnlaa
open Go.RowKit
set_option linter.unusedVariables false
set_option linter.unusedSimpArgs false

theorem bnot_t {a b : Bool} (h : a = !b) (e : a = true) : b = false := by subst e; cases b <;> simp_all
theorem bnot_f {a b : Bool} (h : a = !b) (e : a = false) : b = true := by subst e; cases b <;> simp_all

set_option maxRecDepth 100000 in
set_option maxHeartbeats 8000000 in
theorem wi_FnWays (A : Option Addr) (n c : Nat) (zs : List Int) (w : World) (hcode : Rd w 1 A n (bytesV zs)) (hz : ∀ z ∈ zs, 0 ≤ z ∧ z < 256) (hn : n ≤ 9223372036854775807) :
    Calls Try.prog 5 #[.slice A n c] w fun e w' => e = .returned (.bool true) ∧ Below w.heap.size w w' := by
  have hl := rd_bytes_len hcode
  go_enter Try.func5, Try.ntmps5
  refine wp_seq_k (fun K1 h1 => ?_)
  refine W.region_quiet [(0, false)] (by kernel_rfl) ?_
  refine W.as (v := .bool false) (h := ?_)
  refine W.endF 211 [(0, .slice A n c), (2, .bool false)] (fun U1 => ?_)
  refine h1 _ _ ?_
  refine wp_seq_k (fun K2 h2 => ?_)
  refine wp_seq_k (fun K3 h3 => ?_)
  refine W.region_plain (row := none) [(0, false), (1, true)] (by kernel_rfl) ?_
  have s2 := SG.self w none
  refine F.mv (v := .slice A n c) (h := ?_)
  refine W.sc (vs := [.slice A n c]) rfl rfl (by kernel_rfl) (by kernel_rfl) (by kernel_rfl) rfl (vBig_any A n c zs _ (Rd.kept hcode (SG.belowR (Below.refl _ _) s2 (fun kq e => by cases e))) hz hn) ?_
  rintro e w4 ⟨rfl, b3⟩
  have s5 := SG.of_below s2 b3
  refine ⟨_, rfl, s5, ?_⟩
  refine F.nx ?_
  rcases Bool.eq_false_or_eq_true (decide (65536 < n)) with q6 | q6
  · rw [q6]
    refine F.endF [(0, .slice A n c), (2, .bool false), (28, .bool true)] (fun U7 => ?_)
    have c8 := (SG.belowR (Below.refl _ _) s5 (fun kq e => by cases e))
    refine h3 _ _ ?_
    refine wp_cond_true (by kernel_rfl) ?_
    refine wp_seq_k (fun K4 h4 => ?_)
    refine W.region_quiet [(0, false)] (by kernel_rfl) ?_
    refine F.as (v := .bool true) (h := ?_)
    refine F.endF [(0, .slice A n c), (2, .bool true), (28, .bool true)] (fun U9 => ?_)
    refine h4 _ _ ?_
    refine wp_ret ?_
    try simp only [Exit.then]
    refine ret1 (v := .bool true) rfl (by kernel_rfl) ?_
    exact ⟨rfl, c8⟩
  · rw [q6]
    refine F.endF [(0, .slice A n c), (2, .bool false), (28, .bool false)] (fun U10 => ?_)
    have c11 := (SG.belowR (Below.refl _ _) s5 (fun kq e => by cases e))
    refine h3 _ _ ?_
    refine wp_cond_false (by kernel_rfl) ?_
    refine wp_skip ?_
    refine h2 _ _ ?_
    refine wp_seq_k (fun K5 h5 => ?_)
    refine W.region_plain (row := none) [(0, false), (1, true), (2, false), (3, false), (4, false), (5, false), (6, true), (7, true), (8, false), (9, false)] (by kernel_rfl) ?_
    have s12 := SG.self w4 none
    refine F.mv (v := .slice A n c) (h := ?_)
    refine W.sc (vs := [.slice A n c]) rfl rfl (by kernel_rfl) (by kernel_rfl) (by kernel_rfl) rfl (DrawShortestWay_any A n c zs _ (Rd.kept hcode (SG.belowR c11 s12 (fun kq e => by cases e))) hz (by have h9 := of_decide_eq_false q6; omega)) ?_
    rintro e w27 ⟨m13, A14, n15, c16, ps17, x24, x25, rfl, ho18, hsm19, b26⟩
    have s28 := SG.of_below s12 b26
    refine ⟨_, rfl, s28, ?_⟩
    refine F.nx ?_
    have rd20 := own_rd ho18
    have fm21 := own_fm ho18
    have hl22 := rd_pipes_len rd20
    have hsm19n := hsm19.2.1
    refine F.mv (v := .tuple #[.agg #[.int .i64 m13, .slice A14 n15 c16], .int .i64 x24, .int .i64 x25]) (h := ?_)
    refine F.q (v := .agg #[.int .i64 m13, .slice A14 n15 c16]) (hr := (r_extract (vs := #[.agg #[.int .i64 m13, .slice A14 n15 c16], .int .i64 x24, .int .i64 x25]) rfl (ev_any (by kernel_rfl)) (by kernel_rfl))) (h := ?_)
    refine F.q (v := .int .i64 x24) (hr := (r_extract (vs := #[.agg #[.int .i64 m13, .slice A14 n15 c16], .int .i64 x24, .int .i64 x25]) rfl (ev_any (by kernel_rfl)) (by kernel_rfl))) (h := ?_)
    refine F.q (v := .int .i64 x25) (hr := (r_extract (vs := #[.agg #[.int .i64 m13, .slice A14 n15 c16], .int .i64 x24, .int .i64 x25]) rfl (ev_any (by kernel_rfl)) (by kernel_rfl))) (h := ?_)
    refine W.sn (fun b => .pointer (some ⟨b, 0, none⟩)) #[.int .i64 0, .slice none 0 0] 31 s28 rfl (by kernel_rfl) rfl (fun _ => by kernel_rfl) (fun b29 w30 hb31 k32 x33 s34 => ?_)
    refine F.nx ?_
    have lo35 : w.heap.size ≤ b29 := Nat.le_trans ((SG.belowR c11 s28 (fun kq e => by cases e))).size (Nat.le_of_eq hb31)
    have sp36 : Sp A14 n15 (some b29) := sp_new rd20 (by have := hb31; omega)
    have rd37 := Rd.kept rd20 k32
    refine W.ss (v := .agg #[.int .i64 m13, .slice A14 n15 c16]) (j := 0) (news := [.int .i64 m13, .slice A14 n15 c16]) (cs' := #[.int .i64 m13, .slice A14 n15 c16]) s34 rfl (by kernel_rfl) rfl rfl (by kernel_rfl) (by kernel_rfl) x33 (by kernel_rfl) (by kernel_rfl) (by simp) (by kernel_rfl) (by kernel_rfl) (.inr (Nat.le_trans (s28).size (Nat.le_of_eq hb31))) (fun w38 g39 x40 s41 => ?_)
    have rd42 := rd_sepG rd37 g39 sp36
    refine F.as (v := .int .i64 x24) (h := ?_)
    refine F.as (v := .int .i64 x25) (h := ?_)
    refine F.endF [(0, .slice A n c), (2, .bool false), (3, .pointer (some ⟨b29, 0, none⟩)), (4, .int .i64 x24), (5, .int .i64 x25), (28, .bool false)] (fun U43 => ?_)
    have c44 := (SG.belowR c11 s41 (fun kq e => by cases e))
    refine h5 _ _ ?_
    as_aux_lemma =>
      refine wp_seq_k (fun K6 h6 => ?_)
      refine W.region_plain (row := none) [(0, false), (1, false), (2, false), (3, true), (4, false), (5, false), (6, false), (7, false), (8, false)] (by kernel_rfl) ?_
      have s45 := SG.self w38 none
      refine F.q (v := .agg #[.int .i64 m13, .slice A14 n15 c16]) (hr := (r_load2 rfl (ev_any (by kernel_rfl)) (by kernel_rfl) (by kernel_rfl) (sgS (blk_cell (j := 0) x40 (by kernel_rfl)) (Option.some_ne_none _)) (sgS (blk_cell (j := 1) x40 (by kernel_rfl)) (Option.some_ne_none _)))) (h := ?_)
      refine F.mv (v := .int .i64 x24) (h := ?_)
      refine F.mv (v := .int .i64 x25) (h := ?_)
      refine W.sc (vs := [.agg #[.int .i64 m13, .slice A14 n15 c16], .int .i64 x24, .int .i64 x25]) rfl rfl (by kernel_rfl) (by kernel_rfl) (by kernel_rfl) rfl (ShortestWay_impl m13 A14 n15 c16 ps17 x24 x25 _ (Rd.kept rd42 (SG.below s45)) (by omega)) ?_
      rintro e w54 ⟨A46, d47, rfl, r48, b53⟩
      have s55 := SG.of_below s45 b53
      refine ⟨_, rfl, s55, ?_⟩
      refine F.nx ?_
      have rd49 := own_rd r48
      have fm50 := own_fm r48
      have hl51 : (ShortestWay_v0 m13 ps17 x24 x25).length = (ShortestWay_v0 m13 ps17 x24 x25).length := rfl
      have hb56 := ShortestWay_len m13 ps17 x24 x25
      refine F.mv (v := .tuple #[.slice A46 ((ShortestWay_v0 m13 ps17 x24 x25).length) d47, .bool (ShortestWay_v1 m13 ps17 x24 x25)]) (h := ?_)
      refine F.q (v := .slice A46 ((ShortestWay_v0 m13 ps17 x24 x25).length) d47) (hr := (r_extract (vs := #[.slice A46 ((ShortestWay_v0 m13 ps17 x24 x25).length) d47, .bool (ShortestWay_v1 m13 ps17 x24 x25)]) rfl (ev_any (by kernel_rfl)) (by kernel_rfl))) (h := ?_)
      refine F.q (v := .bool (ShortestWay_v1 m13 ps17 x24 x25)) (hr := (r_extract (vs := #[.slice A46 ((ShortestWay_v0 m13 ps17 x24 x25).length) d47, .bool (ShortestWay_v1 m13 ps17 x24 x25)]) rfl (ev_any (by kernel_rfl)) (by kernel_rfl))) (h := ?_)
      refine F.as (v := .slice A46 ((ShortestWay_v0 m13 ps17 x24 x25).length) d47) (h := ?_)
      refine F.as (v := .bool (ShortestWay_v1 m13 ps17 x24 x25)) (h := ?_)
      refine F.endF [(0, .slice A n c), (2, .bool false), (3, .pointer (some ⟨b29, 0, none⟩)), (4, .int .i64 x24), (5, .int .i64 x25), (6, .slice A46 ((ShortestWay_v0 m13 ps17 x24 x25).length) d47), (7, .bool (ShortestWay_v1 m13 ps17 x24 x25)), (28, .bool false)] (fun U57 => ?_)
      have x40 := SG.blk s55 x40 (Option.some_ne_none _)
      have c58 := (SG.belowR c44 s55 (fun kq e => by cases e))
      have rd59 := Rd.kept rd42 (SG.below s55)
      refine h6 _ _ ?_
      refine wp_seq_k (fun K7 h7 => ?_)
      refine wp_seq_k (fun K8 h8 => ?_)
      refine W.region_plain (row := none) [(0, false), (1, false), (2, false), (3, true), (4, false), (5, false), (6, false), (7, false), (8, false)] (by kernel_rfl) ?_
      have s60 := SG.self w54 none
      refine F.q (v := .agg #[.int .i64 m13, .slice A14 n15 c16]) (hr := (r_load2 rfl (ev_any (by kernel_rfl)) (by kernel_rfl) (by kernel_rfl) (sgS (blk_cell (j := 0) x40 (by kernel_rfl)) (Option.some_ne_none _)) (sgS (blk_cell (j := 1) x40 (by kernel_rfl)) (Option.some_ne_none _)))) (h := ?_)
      refine F.mv (v := .int .i64 x24) (h := ?_)
      refine F.mv (v := .int .i64 x25) (h := ?_)
      refine W.sc (vs := [.agg #[.int .i64 m13, .slice A14 n15 c16], .int .i64 x24, .int .i64 x25]) rfl rfl (by kernel_rfl) (by kernel_rfl) (by kernel_rfl) rfl (ShortestWay_spec m13 A14 n15 c16 ps17 x24 x25 _ (Rd.kept rd59 (SG.below s60)) (by omega)) ?_
      rintro e w69 ⟨A61, d62, rfl, r63, b68⟩
      have s70 := SG.of_below s60 b68
      refine ⟨_, rfl, s70, ?_⟩
      refine F.nx ?_
      have rd64 := own_rd r63
      have fm65 := own_fm r63
      have hl66 : (ShortestWay_v0 m13 ps17 x24 x25).length = (ShortestWay_v0 m13 ps17 x24 x25).length := rfl
      have hb71 := ShortestWay_len m13 ps17 x24 x25
      refine F.mv (v := .tuple #[.slice A61 ((ShortestWay_v0 m13 ps17 x24 x25).length) d62, .bool (ShortestWay_v1 m13 ps17 x24 x25)]) (h := ?_)
      refine F.q (v := .slice A61 ((ShortestWay_v0 m13 ps17 x24 x25).length) d62) (hr := (r_extract (vs := #[.slice A61 ((ShortestWay_v0 m13 ps17 x24 x25).length) d62, .bool (ShortestWay_v1 m13 ps17 x24 x25)]) rfl (ev_any (by kernel_rfl)) (by kernel_rfl))) (h := ?_)
      refine F.q (v := .bool (ShortestWay_v1 m13 ps17 x24 x25)) (hr := (r_extract (vs := #[.slice A61 ((ShortestWay_v0 m13 ps17 x24 x25).length) d62, .bool (ShortestWay_v1 m13 ps17 x24 x25)]) rfl (ev_any (by kernel_rfl)) (by kernel_rfl))) (h := ?_)
      refine F.as (v := .slice A61 ((ShortestWay_v0 m13 ps17 x24 x25).length) d62) (h := ?_)
      refine F.as (v := .bool (ShortestWay_v1 m13 ps17 x24 x25)) (h := ?_)
      refine F.endF [(0, .slice A n c), (2, .bool false), (3, .pointer (some ⟨b29, 0, none⟩)), (4, .int .i64 x24), (5, .int .i64 x25), (6, .slice A46 ((ShortestWay_v0 m13 ps17 x24 x25).length) d47), (7, .bool (ShortestWay_v1 m13 ps17 x24 x25)), (8, .slice A61 ((ShortestWay_v0 m13 ps17 x24 x25).length) d62), (9, .bool (ShortestWay_v1 m13 ps17 x24 x25)), (28, .bool false)] (fun U72 => ?_)
      have x40 := SG.blk s70 x40 (Option.some_ne_none _)
      have c73 := (SG.belowR c58 s70 (fun kq e => by cases e))
      have rd74 := Rd.kept rd59 (SG.below s70)
      have rd75 := Rd.kept rd49 (SG.below s70)
      refine h8 _ _ ?_
      refine wp_seq_k (fun K9 h9 => ?_)
      refine W.region_plain (row := none) [(0, false), (1, false), (2, false), (3, false), (4, false), (5, false), (6, true), (7, false), (8, false)] (by kernel_rfl) ?_
      have s76 := SG.self w69 none
      refine F.mv (v := .bool (ShortestWay_v1 m13 ps17 x24 x25)) (h := ?_)
      refine F.mv (v := .bool (ShortestWay_v1 m13 ps17 x24 x25)) (h := ?_)
      refine F.q (v := .bool false) (hr := (r_neqB (m := (ShortestWay_v1 m13 ps17 x24 x25)) (n := (ShortestWay_v1 m13 ps17 x24 x25)) rfl (ev_any (by kernel_rfl)) (ev_any (by kernel_rfl)) (by kernel_rfl) (by rw [show ((ShortestWay_v1 m13 ps17 x24 x25) == (ShortestWay_v1 m13 ps17 x24 x25)) = true from beq_iff_eq.2 rfl]; rfl))) (h := ?_)
      refine F.mv (v := .bool false) (h := ?_)
      refine F.mv (v := .slice A46 ((ShortestWay_v0 m13 ps17 x24 x25).length) d47) (h := ?_)
      refine F.mv (v := .slice A61 ((ShortestWay_v0 m13 ps17 x24 x25).length) d62) (h := ?_)
      refine W.sc (vs := [.slice A46 ((ShortestWay_v0 m13 ps17 x24 x25).length) d47, .slice A61 ((ShortestWay_v0 m13 ps17 x24 x25).length) d62]) rfl rfl (by kernel_rfl) (by kernel_rfl) (by kernel_rfl) rfl (vInts_same A46 A61 ((ShortestWay_v0 m13 ps17 x24 x25).length) d47 d62 (ShortestWay_v0 m13 ps17 x24 x25) _ (Rd.kept rd75 (SG.below s76)) (Rd.kept rd64 (SG.below s76)) (by omega)) ?_
      rintro e w78 ⟨rfl, b77⟩
      have s79 := SG.of_below s76 b77
      refine ⟨_, rfl, s79, ?_⟩
      refine F.nx ?_
      refine F.q (v := .bool false) (hr := (r_not (b := true) rfl (ev_any (by kernel_rfl)) rfl)) (h := ?_)
      refine F.q (v := .bool false) (hr := (r_pick (b := false) rfl (ev_any (by kernel_rfl)) (ev_any (by kernel_rfl)))) (h := ?_)
      refine F.endF [(0, .slice A n c), (2, .bool false), (3, .pointer (some ⟨b29, 0, none⟩)), (4, .int .i64 x24), (5, .int .i64 x25), (6, .slice A46 ((ShortestWay_v0 m13 ps17 x24 x25).length) d47), (7, .bool (ShortestWay_v1 m13 ps17 x24 x25)), (8, .slice A61 ((ShortestWay_v0 m13 ps17 x24 x25).length) d62), (9, .bool (ShortestWay_v1 m13 ps17 x24 x25)), (28, .bool false), (57, .bool false)] (fun U80 => ?_)
      have x40 := SG.blk s79 x40 (Option.some_ne_none _)
      have c81 := (SG.belowR c73 s79 (fun kq e => by cases e))
      have rd82 := Rd.kept rd74 (SG.below s79)
      have rd83 := Rd.kept rd75 (SG.below s79)
      have rd84 := Rd.kept rd64 (SG.below s79)
      refine h9 _ _ ?_
      as_aux_lemma =>
        refine wp_cond_false (by kernel_rfl) ?_
        refine wp_skip ?_
        refine h7 _ _ ?_
        refine joinK (fun amj1 aaj1 wlj1 => ∃ (Uj1 : Nat → Value), aaj1 = ⟨(fr Uj1 [(0, .slice A n c), (2, .bool false)] 211 0).toArray, []⟩ ∧ (amj1 = 0) ∧ (wlj1.heap[b29]? = some (.cells #[.int .i64 m13, .slice A14 n15 c16] 31 (0, 0))) ∧ (Rd wlj1 4 A14 n15 (pipesV ps17)) ∧ (Below w.heap.size w wlj1)) ?_ ?_
        · rintro amj1 aaj1 wlj1 ⟨Uj1, rfl, rfl, x40, klj1_0, c85⟩
          refine wp_seq_k (fun K10 h10 => ?_)
          refine W.region_plain (row := none) [(0, false), (1, true), (2, true), (3, true)] (by kernel_rfl) ?_
          have s86 := SG.self wlj1 none
          refine F.mv (v := .slice A n c) (h := ?_)
          refine W.sc (vs := [.slice A n c]) rfl rfl (by kernel_rfl) (by kernel_rfl) (by kernel_rfl) rfl (DrawBridgePipes_any A n c zs _ (Rd.kept hcode (SG.belowR c85 s86 (fun kq e => by cases e))) hz (by have h9 := of_decide_eq_false q6; omega)) ?_
          rintro e w99 ⟨m87, A88, n89, c90, ps91, rfl, ho92, hsm93, b98⟩
          have s100 := SG.of_below s86 b98
          refine ⟨_, rfl, s100, ?_⟩
          refine F.nx ?_
          have rd94 := own_rd ho92
          have fm95 := own_fm ho92
          have hl96 := rd_pipes_len rd94
          have hsm93n := hsm93.2.1
          refine W.sn (fun b => .pointer (some ⟨b, 0, none⟩)) #[.int .i64 0, .slice none 0 0] 31 s100 rfl (by kernel_rfl) rfl (fun _ => by kernel_rfl) (fun b101 w102 hb103 k104 x105 s106 => ?_)
          refine F.nx ?_
          have lo107 : w.heap.size ≤ b101 := Nat.le_trans ((SG.belowR c85 s100 (fun kq e => by cases e))).size (Nat.le_of_eq hb103)
          have sp108 : Sp A88 n89 (some b101) := sp_new rd94 (by have := hb103; omega)
          have sp109 : Sp A14 n15 (some b101) := sp_new klj1_0 (by have := (s100).size; have := hb103; omega)
          have ne110 : b29 ≠ b101 := Nat.ne_of_lt (Nat.lt_of_lt_of_eq (Nat.lt_of_lt_of_le (blk_lt x40) (s100).size) hb103)
          have rd111 := Rd.kept rd94 k104
          refine W.ss (v := .agg #[.int .i64 m87, .slice A88 n89 c90]) (j := 0) (news := [.int .i64 m87, .slice A88 n89 c90]) (cs' := #[.int .i64 m87, .slice A88 n89 c90]) s106 rfl (by kernel_rfl) rfl rfl (by kernel_rfl) (by kernel_rfl) x105 (by kernel_rfl) (by kernel_rfl) (by simp) (by kernel_rfl) (by kernel_rfl) (.inr (Nat.le_trans (s100).size (Nat.le_of_eq hb103))) (fun w112 g113 x114 s115 => ?_)
          have rd116 := rd_sepG rd111 g113 sp108
          refine F.endF [(0, .slice A n c), (2, .bool false), (16, .pointer (some ⟨b101, 0, none⟩))] (fun U117 => ?_)
          have x40 := SG.blk s115 x40 (Option.some_ne_none _)
          have c118 := (SG.belowR c85 s115 (fun kq e => by cases e))
          have rd119 := Rd.kept klj1_0 (SG.below s115)
          refine h10 _ _ ?_
          refine wp_seq_k (fun K11 h11 => ?_)
          refine W.region_plain (row := none) [(0, false), (1, true), (2, false), (3, false), (4, false), (5, false), (6, false)] (by kernel_rfl) ?_
          have s120 := SG.self w112 none
          refine F.q (v := .agg #[.int .i64 m87, .slice A88 n89 c90]) (hr := (r_load2 rfl (ev_any (by kernel_rfl)) (by kernel_rfl) (by kernel_rfl) (sgS (blk_cell (j := 0) x114 (by kernel_rfl)) (Option.some_ne_none _)) (sgS (blk_cell (j := 1) x114 (by kernel_rfl)) (Option.some_ne_none _)))) (h := ?_)
          refine W.sc (vs := [.agg #[.int .i64 m87, .slice A88 n89 c90]]) rfl rfl (by kernel_rfl) (by kernel_rfl) (by kernel_rfl) rfl (BridgePipes_impl m87 A88 n89 c90 ps91 _ (Rd.kept rd116 (SG.below s120)) (by omega) fm95) ?_
          rintro e w129 ⟨A121, d122, rfl, r123, b128⟩
          have s130 := SG.of_below s120 b128
          refine ⟨_, rfl, s130, ?_⟩
          refine F.nx ?_
          have rd124 := own_rd r123
          have fm125 := own_fm r123
          have hl126 : (BridgePipes_v0 m87 ps91).length = (BridgePipes_v0 m87 ps91).length := rfl
          have hb131 := BridgePipes_len m87 ps91
          rcases Bool.eq_false_or_eq_true (BridgePipes_v1 m87 ps91) with q132 | q132
          · rw [q132]
            refine F.mv (v := .tuple #[.slice A121 ((BridgePipes_v0 m87 ps91).length) d122, .bool true]) (h := ?_)
            refine F.q (v := .slice A121 ((BridgePipes_v0 m87 ps91).length) d122) (hr := (r_extract (vs := #[.slice A121 ((BridgePipes_v0 m87 ps91).length) d122, .bool true]) rfl (ev_any (by kernel_rfl)) (by kernel_rfl))) (h := ?_)
            refine F.q (v := .bool true) (hr := (r_extract (vs := #[.slice A121 ((BridgePipes_v0 m87 ps91).length) d122, .bool true]) rfl (ev_any (by kernel_rfl)) (by kernel_rfl))) (h := ?_)
            refine F.as (v := .slice A121 ((BridgePipes_v0 m87 ps91).length) d122) (h := ?_)
            refine F.as (v := .bool true) (h := ?_)
            refine F.endF [(0, .slice A n c), (2, .bool false), (16, .pointer (some ⟨b101, 0, none⟩)), (17, .slice A121 ((BridgePipes_v0 m87 ps91).length) d122), (18, .bool true)] (fun U133 => ?_)
            have x40 := SG.blk s130 x40 (Option.some_ne_none _)
            have x114 := SG.blk s130 x114 (Option.some_ne_none _)
            have c134 := (SG.belowR c118 s130 (fun kq e => by cases e))
            have rd135 := Rd.kept rd119 (SG.below s130)
            have rd136 := Rd.kept rd116 (SG.below s130)
            refine h11 _ _ ?_
            refine wp_seq_k (fun K12 h12 => ?_)
            refine wp_seq_k (fun K13 h13 => ?_)
            refine W.region_plain (row := none) [(0, false), (1, true), (2, false), (3, false), (4, false), (5, false), (6, false)] (by kernel_rfl) ?_
            have s137 := SG.self w129 none
            refine F.q (v := .agg #[.int .i64 m87, .slice A88 n89 c90]) (hr := (r_load2 rfl (ev_any (by kernel_rfl)) (by kernel_rfl) (by kernel_rfl) (sgS (blk_cell (j := 0) x114 (by kernel_rfl)) (Option.some_ne_none _)) (sgS (blk_cell (j := 1) x114 (by kernel_rfl)) (Option.some_ne_none _)))) (h := ?_)
            refine W.sc (vs := [.agg #[.int .i64 m87, .slice A88 n89 c90]]) rfl rfl (by kernel_rfl) (by kernel_rfl) (by kernel_rfl) rfl (BridgePipes_spec m87 A88 n89 c90 ps91 _ (Rd.kept rd136 (SG.below s137)) (by omega) fm95) ?_
            rintro e w146 ⟨A138, d139, rfl, r140, b145⟩
            have s147 := SG.of_below s137 b145
            refine ⟨_, rfl, s147, ?_⟩
            refine F.nx ?_
            have rd141 := own_rd r140
            have fm142 := own_fm r140
            have hl143 : (BridgePipes_v0 m87 ps91).length = (BridgePipes_v0 m87 ps91).length := rfl
            have hb148 := BridgePipes_len m87 ps91
            rw [q132]
            refine F.mv (v := .tuple #[.slice A138 ((BridgePipes_v0 m87 ps91).length) d139, .bool true]) (h := ?_)
            refine F.q (v := .slice A138 ((BridgePipes_v0 m87 ps91).length) d139) (hr := (r_extract (vs := #[.slice A138 ((BridgePipes_v0 m87 ps91).length) d139, .bool true]) rfl (ev_any (by kernel_rfl)) (by kernel_rfl))) (h := ?_)
            refine F.q (v := .bool true) (hr := (r_extract (vs := #[.slice A138 ((BridgePipes_v0 m87 ps91).length) d139, .bool true]) rfl (ev_any (by kernel_rfl)) (by kernel_rfl))) (h := ?_)
            refine F.as (v := .slice A138 ((BridgePipes_v0 m87 ps91).length) d139) (h := ?_)
            refine F.as (v := .bool true) (h := ?_)
            refine F.endF [(0, .slice A n c), (2, .bool false), (16, .pointer (some ⟨b101, 0, none⟩)), (17, .slice A121 ((BridgePipes_v0 m87 ps91).length) d122), (18, .bool true), (19, .slice A138 ((BridgePipes_v0 m87 ps91).length) d139), (20, .bool true)] (fun U150 => ?_)
            have x40 := SG.blk s147 x40 (Option.some_ne_none _)
            have x114 := SG.blk s147 x114 (Option.some_ne_none _)
            have c151 := (SG.belowR c134 s147 (fun kq e => by cases e))
            have rd152 := Rd.kept rd135 (SG.below s147)
            have rd153 := Rd.kept rd136 (SG.below s147)
            have rd154 := Rd.kept rd124 (SG.below s147)
            refine h13 _ _ ?_
            as_aux_lemma =>
              refine wp_seq_k (fun K14 h14 => ?_)
              refine W.region_plain (row := none) [(0, false), (1, false), (2, false), (3, false), (4, false), (5, false), (6, true), (7, false), (8, false)] (by kernel_rfl) ?_
              have s155 := SG.self w146 none
              refine F.mv (v := .bool true) (h := ?_)
              refine F.mv (v := .bool true) (h := ?_)
              refine F.q (v := .bool false) (hr := (r_neqB (m := true) (n := true) rfl (ev_any (by kernel_rfl)) (ev_any (by kernel_rfl)) (by kernel_rfl) rfl)) (h := ?_)
              refine F.mv (v := .bool false) (h := ?_)
              refine F.mv (v := .slice A121 ((BridgePipes_v0 m87 ps91).length) d122) (h := ?_)
              refine F.mv (v := .slice A138 ((BridgePipes_v0 m87 ps91).length) d139) (h := ?_)
              refine W.sc (vs := [.slice A121 ((BridgePipes_v0 m87 ps91).length) d122, .slice A138 ((BridgePipes_v0 m87 ps91).length) d139]) rfl rfl (by kernel_rfl) (by kernel_rfl) (by kernel_rfl) rfl (vInts_same A121 A138 ((BridgePipes_v0 m87 ps91).length) d122 d139 (BridgePipes_v0 m87 ps91) _ (Rd.kept rd154 (SG.below s155)) (Rd.kept rd141 (SG.below s155)) (by omega)) ?_
              rintro e w157 ⟨rfl, b156⟩
              have s158 := SG.of_below s155 b156
              refine ⟨_, rfl, s158, ?_⟩
              refine F.nx ?_
              refine F.q (v := .bool false) (hr := (r_not (b := true) rfl (ev_any (by kernel_rfl)) rfl)) (h := ?_)
              refine F.q (v := .bool false) (hr := (r_pick (b := false) rfl (ev_any (by kernel_rfl)) (ev_any (by kernel_rfl)))) (h := ?_)
              refine F.endF [(0, .slice A n c), (2, .bool false), (16, .pointer (some ⟨b101, 0, none⟩)), (17, .slice A121 ((BridgePipes_v0 m87 ps91).length) d122), (18, .bool true), (19, .slice A138 ((BridgePipes_v0 m87 ps91).length) d139), (20, .bool true), (169, .bool false)] (fun U159 => ?_)
              have x40 := SG.blk s158 x40 (Option.some_ne_none _)
              have x114 := SG.blk s158 x114 (Option.some_ne_none _)
              have c160 := (SG.belowR c151 s158 (fun kq e => by cases e))
              have rd161 := Rd.kept rd152 (SG.below s158)
              have rd162 := Rd.kept rd153 (SG.below s158)
              have rd163 := Rd.kept rd154 (SG.below s158)
              have rd164 := Rd.kept rd141 (SG.below s158)
              refine h14 _ _ ?_
              refine wp_cond_false (by kernel_rfl) ?_
              refine wp_skip ?_
              refine h12 _ _ ?_
              refine wp_seq_k (fun K15 h15 => ?_)
              refine wp_seq_k (fun K16 h16 => ?_)
              refine W.region_quiet [(0, false)] (by kernel_rfl) ?_
              refine F.as (v := .int .i64 0) (h := ?_)
              refine F.endF [(0, .slice A n c), (2, .bool false), (16, .pointer (some ⟨b101, 0, none⟩)), (17, .slice A121 ((BridgePipes_v0 m87 ps91).length) d122), (18, .bool true), (19, .slice A138 ((BridgePipes_v0 m87 ps91).length) d139), (20, .bool true), (21, .int .i64 0), (169, .bool false)] (fun U165 => ?_)
              refine h16 _ _ ?_
              refine wp_block ?_
              refine loopK (fun am2 aa2 wl2 => ∃ (j : Nat) (U2 : Nat → Value), aa2 = ⟨(fr U2 [(0, .slice A n c), (2, .bool false), (16, .pointer (some ⟨b101, 0, none⟩)), (17, .slice A121 ((BridgePipes_v0 m87 ps91).length) d122), (18, .bool true), (19, .slice A138 ((BridgePipes_v0 m87 ps91).length) d139), (20, .bool true), (21, .int .i64 ((j : Nat) : Int)), (169, .bool false)] 211 0).toArray, []⟩ ∧ (am2 = n89 - j) ∧ (j ≤ n89) ∧ (wl2.heap[b29]? = some (.cells #[.int .i64 m13, .slice A14 n15 c16] 31 (0, 0))) ∧ (wl2.heap[b101]? = some (.cells #[.int .i64 m87, .slice A88 n89 c90] 31 (0, 0))) ∧ (Rd wl2 1 A121 ((BridgePipes_v0 m87 ps91).length) (intsV (BridgePipes_v0 m87 ps91))) ∧ (Rd wl2 1 A138 ((BridgePipes_v0 m87 ps91).length) (intsV (BridgePipes_v0 m87 ps91))) ∧ (Rd wl2 4 A14 n15 (pipesV ps17)) ∧ (Rd wl2 4 A88 n89 (pipesV ps91)) ∧ (Below w.heap.size w wl2)) (n89 - 0) ?_ ?_
              · exact ⟨0, (fun iU9 => lk [(0, .slice A n c), (2, .bool false), (16, .pointer (some ⟨b101, 0, none⟩)), (17, .slice A121 ((BridgePipes_v0 m87 ps91).length) d122), (18, .bool true), (19, .slice A138 ((BridgePipes_v0 m87 ps91).length) d139), (20, .bool true), (21, .int .i64 0), (169, .bool false)] iU9 (U165 iU9)), (by kernel_rfl), rfl, (Nat.zero_le _), x40, x114, rd163, rd164, rd161, rd162, c160⟩
              rintro am2 aa2 wl2 K17 h17 ⟨j, U2, rfl, rfl, hj, x40, x114, kl2_0, kl2_1, kl2_2, kl2_3, c166⟩
              refine wp_seq_k (fun K18 h18 => ?_)
              refine wp_seq_k (fun K19 h19 => ?_)
              refine W.region_quiet [(0, false), (1, false), (2, false), (3, false), (4, false), (5, false), (6, false), (7, false)] (by kernel_rfl) ?_
              refine F.mv (v := .int .i64 ((j : Nat) : Int)) (h := ?_)
              refine F.q (v := .pointer (some ⟨b101, 1, none⟩)) (hr := (r_field (k := 1) rfl (ev_any (by kernel_rfl)) (by kernel_rfl))) (h := ?_)
              refine F.ld (v := .slice A88 n89 c90) (hc := (eqS (blk_cell (j := 1) x114 (by kernel_rfl)))) (h := ?_)
              refine F.q (v := .int .i64 ((n89 : Nat) : Int)) (hr := (r_len (A := A88) (n := n89) (c := c90) rfl (ev_any (by kernel_rfl)) (by kernel_rfl))) (h := ?_)
              by_cases q167 : (((j : Nat) : Int) : Int) < (((n89 : Nat) : Int) : Int)
              · refine F.q (v := .bool true) (hr := (r_lss (m := ((j : Nat) : Int)) (n := ((n89 : Nat) : Int)) rfl (ev_any (by kernel_rfl)) (ev_any (by kernel_rfl)) (decide_eq_true q167))) (h := ?_)
                refine F.mv (v := .bool true) (h := ?_)
                refine F.mv (v := .bool true) (h := ?_)
                refine F.q (v := .bool true) (hr := (r_pick (b := true) rfl (ev_any (by kernel_rfl)) (ev_any (by kernel_rfl)))) (h := ?_)
                refine F.endF [(0, .slice A n c), (2, .bool false), (16, .pointer (some ⟨b101, 0, none⟩)), (17, .slice A121 ((BridgePipes_v0 m87 ps91).length) d122), (18, .bool true), (19, .slice A138 ((BridgePipes_v0 m87 ps91).length) d139), (20, .bool true), (21, .int .i64 ((j : Nat) : Int)), (169, .bool false), (177, .bool true)] (fun U168 => ?_)
                refine h19 _ _ ?_
                refine wp_cond_true (by kernel_rfl) ?_
                refine wp_skip ?_
                refine h18 _ _ ?_
                refine wp_seq_k (fun K20 h20 => ?_)
                refine wp_block ?_
                refine wp_seq_k (fun K21 h21 => ?_)
                refine W.region_plain (row := none) [(0, false), (1, false), (2, false), (3, false), (4, false), (5, true), (6, true)] (by kernel_rfl) ?_
                have s169 := SG.self wl2 none
                refine F.q (v := .pointer (some ⟨b101, 1, none⟩)) (hr := (r_field (k := 1) rfl (ev_any (by kernel_rfl)) (by kernel_rfl))) (h := ?_)
                refine F.ld (v := .slice A88 n89 c90) (hc := (sgS (blk_cell (j := 1) x114 (by kernel_rfl)) (Option.some_ne_none _))) (h := ?_)
                refine F.mv (v := .int .i64 ((j : Nat) : Int)) (h := ?_)
                obtain ⟨x170, hx171⟩ := get_of (zs := ps91) (k := j) (by have := hl96; omega)
                obtain ⟨b172, o173, hA174, hb175, hc176, hc177, hc178, hc179⟩ := Rd.elPipe kl2_3 hx171
                refine F.q (v := .pointer (some ⟨b172, o173 + j * 4, none⟩)) (hr := (r_idx (n := n89) (c := c90) (k := j) rfl (ev_any (by kernel_rfl)) hA174 (by kernel_rfl) (by kernel_rfl) (by have := hl96; omega))) (h := ?_)
                refine F.q (v := .agg #[.int .i64 x170.id, .int .i64 x170.fr, .int .i64 x170.to, .int .i64 x170.sz]) (hr := (r_load4 rfl (ev_any (by kernel_rfl)) (by kernel_rfl) (by kernel_rfl) (sgS hc176 (by simp)) (sgS hc177 (by simp)) (sgS hc178 (by simp)) (sgS hc179 (by simp)))) (h := ?_)
                refine W.sn (fun b => .pointer (some ⟨b, 0, none⟩)) #[.int .i64 0, .int .i64 0, .int .i64 0, .int .i64 0] 51 s169 rfl (by kernel_rfl) rfl (fun _ => by kernel_rfl) (fun b180 w181 hb182 k183 x184 s185 => ?_)
                refine F.nx ?_
                have lo186 : w.heap.size ≤ b180 := Nat.le_trans ((SG.belowR c166 s169 (fun kq e => by cases e))).size (Nat.le_of_eq hb182)
                have sp187 : Sp A121 ((BridgePipes_v0 m87 ps91).length) (some b180) := sp_new kl2_0 (by have := (s169).size; have := hb182; omega)
                have sp188 : Sp A138 ((BridgePipes_v0 m87 ps91).length) (some b180) := sp_new kl2_1 (by have := (s169).size; have := hb182; omega)
                have sp189 : Sp A88 n89 (some b180) := sp_new kl2_3 (by have := (s169).size; have := hb182; omega)
                have sp190 : Sp A14 n15 (some b180) := sp_new kl2_2 (by have := (s169).size; have := hb182; omega)
                have ne191 : b29 ≠ b180 := Nat.ne_of_lt (Nat.lt_of_lt_of_eq (Nat.lt_of_lt_of_le (blk_lt x40) (s169).size) hb182)
                have ne192 : b101 ≠ b180 := Nat.ne_of_lt (Nat.lt_of_lt_of_eq (Nat.lt_of_lt_of_le (blk_lt x114) (s169).size) hb182)
                refine W.ss (v := .agg #[.int .i64 x170.id, .int .i64 x170.fr, .int .i64 x170.to, .int .i64 x170.sz]) (j := 0) (news := [.int .i64 x170.id, .int .i64 x170.fr, .int .i64 x170.to, .int .i64 x170.sz]) (cs' := #[.int .i64 x170.id, .int .i64 x170.fr, .int .i64 x170.to, .int .i64 x170.sz]) s185 rfl (by kernel_rfl) rfl rfl (by kernel_rfl) (by kernel_rfl) x184 (by kernel_rfl) (by kernel_rfl) (by simp) (by kernel_rfl) (by kernel_rfl) (.inr (Nat.le_trans (s169).size (Nat.le_of_eq hb182))) (fun w193 g194 x195 s196 => ?_)
                refine F.endF [(0, .slice A n c), (2, .bool false), (16, .pointer (some ⟨b101, 0, none⟩)), (17, .slice A121 ((BridgePipes_v0 m87 ps91).length) d122), (18, .bool true), (19, .slice A138 ((BridgePipes_v0 m87 ps91).length) d139), (20, .bool true), (21, .int .i64 ((j : Nat) : Int)), (22, .pointer (some ⟨b180, 0, none⟩)), (169, .bool false), (177, .bool true)] (fun U197 => ?_)
                have x40 := SG.blk s196 x40 (Option.some_ne_none _)
                have x114 := SG.blk s196 x114 (Option.some_ne_none _)
                have c198 := (SG.belowR c166 s196 (fun kq e => by cases e))
                have rd199 := Rd.kept kl2_2 (SG.below s196)
                have rd200 := Rd.kept kl2_3 (SG.below s196)
                have rd201 := Rd.kept kl2_0 (SG.below s196)
                have rd202 := Rd.kept kl2_1 (SG.below s196)
                refine h21 _ _ ?_
                as_aux_lemma =>
                  refine wp_seq_k (fun K22 h22 => ?_)
                  refine W.region_plain (row := none) [(0, false), (1, false), (2, false), (3, true), (4, false), (5, false), (6, false), (7, true), (8, true), (9, false)] (by kernel_rfl) ?_
                  have s203 := SG.self w193 none
                  refine F.q (v := .agg #[.int .i64 m87, .slice A88 n89 c90]) (hr := (r_load2 rfl (ev_any (by kernel_rfl)) (by kernel_rfl) (by kernel_rfl) (sgS (blk_cell (j := 0) x114 (by kernel_rfl)) (Option.some_ne_none _)) (sgS (blk_cell (j := 1) x114 (by kernel_rfl)) (Option.some_ne_none _)))) (h := ?_)
                  refine F.q (v := .pointer (some ⟨b180, 0, none⟩)) (hr := (r_field0 rfl (ev_any (by kernel_rfl)) (by kernel_rfl))) (h := ?_)
                  refine F.ld (v := .int .i64 x170.id) (hc := (sgS (blk_cell (j := 0) x195 (by kernel_rfl)) (Option.some_ne_none _))) (h := ?_)
                  have hbl := bridge_law (show goodN _ _ = true from q132) hx171
                  refine W.sc (vs := [.agg #[.int .i64 m87, .slice A88 n89 c90], .int .i64 x170.id]) rfl rfl (by kernel_rfl) (by kernel_rfl) (by kernel_rfl) rfl (RemovePipe_impl m87 A88 n89 c90 ps91 x170.id _ (Rd.kept rd200 (SG.below s203)) (by omega) fm95) ?_
                  rintro e w212 ⟨A204, d205, rfl, r206, b211⟩
                  have s213 := SG.of_below s203 b211
                  refine ⟨_, rfl, s213, ?_⟩
                  refine F.nx ?_
                  have rd207 := own_rd r206
                  have fm208 := own_fm r206
                  have hl209 : (RemovePipe_v0 m87 ps91 x170.id).length = (RemovePipe_v0 m87 ps91 x170.id).length := rfl
                  have hb214 := RemovePipe_len m87 ps91 x170.id
                  refine F.mv (v := .tuple #[.agg #[.int .i64 (RemovePipe_m0 m87 ps91 x170.id), .slice A204 ((RemovePipe_v0 m87 ps91 x170.id).length) d205], .bool (RemovePipe_v1 m87 ps91 x170.id)]) (h := ?_)
                  refine F.q (v := .agg #[.int .i64 (RemovePipe_m0 m87 ps91 x170.id), .slice A204 ((RemovePipe_v0 m87 ps91 x170.id).length) d205]) (hr := (r_extract (vs := #[.agg #[.int .i64 (RemovePipe_m0 m87 ps91 x170.id), .slice A204 ((RemovePipe_v0 m87 ps91 x170.id).length) d205], .bool (RemovePipe_v1 m87 ps91 x170.id)]) rfl (ev_any (by kernel_rfl)) (by kernel_rfl))) (h := ?_)
                  refine F.q (v := .bool (RemovePipe_v1 m87 ps91 x170.id)) (hr := (r_extract (vs := #[.agg #[.int .i64 (RemovePipe_m0 m87 ps91 x170.id), .slice A204 ((RemovePipe_v0 m87 ps91 x170.id).length) d205], .bool (RemovePipe_v1 m87 ps91 x170.id)]) rfl (ev_any (by kernel_rfl)) (by kernel_rfl))) (h := ?_)
                  refine W.sn (fun b => .pointer (some ⟨b, 0, none⟩)) #[.int .i64 0, .slice none 0 0] 31 s213 rfl (by kernel_rfl) rfl (fun _ => by kernel_rfl) (fun b215 w216 hb217 k218 x219 s220 => ?_)
                  refine F.nx ?_
                  have lo221 : w.heap.size ≤ b215 := Nat.le_trans ((SG.belowR c198 s213 (fun kq e => by cases e))).size (Nat.le_of_eq hb217)
                  have sp222 : Sp A121 ((BridgePipes_v0 m87 ps91).length) (some b215) := sp_new rd201 (by have := (s213).size; have := hb217; omega)
                  have sp223 : Sp A138 ((BridgePipes_v0 m87 ps91).length) (some b215) := sp_new rd202 (by have := (s213).size; have := hb217; omega)
                  have sp224 : Sp A204 ((RemovePipe_v0 m87 ps91 x170.id).length) (some b215) := sp_new rd207 (by have := hb217; omega)
                  have sp225 : Sp A88 n89 (some b215) := sp_new rd200 (by have := (s213).size; have := hb217; omega)
                  have sp226 : Sp A14 n15 (some b215) := sp_new rd199 (by have := (s213).size; have := hb217; omega)
                  have ne227 : b29 ≠ b215 := Nat.ne_of_lt (Nat.lt_of_lt_of_eq (Nat.lt_of_lt_of_le (blk_lt x40) (s213).size) hb217)
                  have ne228 : b101 ≠ b215 := Nat.ne_of_lt (Nat.lt_of_lt_of_eq (Nat.lt_of_lt_of_le (blk_lt x114) (s213).size) hb217)
                  have ne229 : b180 ≠ b215 := Nat.ne_of_lt (Nat.lt_of_lt_of_eq (Nat.lt_of_lt_of_le (blk_lt x195) (s213).size) hb217)
                  have rd230 := Rd.kept rd207 k218
                  refine W.ss (v := .agg #[.int .i64 (RemovePipe_m0 m87 ps91 x170.id), .slice A204 ((RemovePipe_v0 m87 ps91 x170.id).length) d205]) (j := 0) (news := [.int .i64 (RemovePipe_m0 m87 ps91 x170.id), .slice A204 ((RemovePipe_v0 m87 ps91 x170.id).length) d205]) (cs' := #[.int .i64 (RemovePipe_m0 m87 ps91 x170.id), .slice A204 ((RemovePipe_v0 m87 ps91 x170.id).length) d205]) s220 rfl (by kernel_rfl) rfl rfl (by kernel_rfl) (by kernel_rfl) x219 (by kernel_rfl) (by kernel_rfl) (by simp) (by kernel_rfl) (by kernel_rfl) (.inr (Nat.le_trans (s213).size (Nat.le_of_eq hb217))) (fun w231 g232 x233 s234 => ?_)
                  have rd235 := rd_sepG rd230 g232 sp224
                  refine F.as (v := .bool (RemovePipe_v1 m87 ps91 x170.id)) (h := ?_)
                  refine F.endF [(0, .slice A n c), (2, .bool false), (16, .pointer (some ⟨b101, 0, none⟩)), (17, .slice A121 ((BridgePipes_v0 m87 ps91).length) d122), (18, .bool true), (19, .slice A138 ((BridgePipes_v0 m87 ps91).length) d139), (20, .bool true), (21, .int .i64 ((j : Nat) : Int)), (22, .pointer (some ⟨b180, 0, none⟩)), (23, .pointer (some ⟨b215, 0, none⟩)), (24, .bool (RemovePipe_v1 m87 ps91 x170.id)), (169, .bool false), (177, .bool true)] (fun U236 => ?_)
                  have x40 := SG.blk s234 x40 (Option.some_ne_none _)
                  have x114 := SG.blk s234 x114 (Option.some_ne_none _)
                  have x195 := SG.blk s234 x195 (Option.some_ne_none _)
                  have c237 := (SG.belowR c198 s234 (fun kq e => by cases e))
                  have rd238 := Rd.kept rd199 (SG.below s234)
                  have rd239 := Rd.kept rd200 (SG.below s234)
                  have rd240 := Rd.kept rd201 (SG.below s234)
                  have rd241 := Rd.kept rd202 (SG.below s234)
                  refine h22 _ _ ?_
                  refine wp_seq_k (fun K23 h23 => ?_)
                  refine W.region_plain (row := none) [(0, false), (1, false), (2, false), (3, false), (4, false), (5, true), (6, false), (7, false), (8, false), (9, false), (10, false)] (by kernel_rfl) ?_
                  have s242 := SG.self w231 none
                  refine F.q (v := .agg #[.int .i64 (RemovePipe_m0 m87 ps91 x170.id), .slice A204 ((RemovePipe_v0 m87 ps91 x170.id).length) d205]) (hr := (r_load2 rfl (ev_any (by kernel_rfl)) (by kernel_rfl) (by kernel_rfl) (sgS (blk_cell (j := 0) x233 (by kernel_rfl)) (Option.some_ne_none _)) (sgS (blk_cell (j := 1) x233 (by kernel_rfl)) (Option.some_ne_none _)))) (h := ?_)
                  refine F.q (v := .pointer (some ⟨b180, 1, none⟩)) (hr := (r_field (k := 1) rfl (ev_any (by kernel_rfl)) (by kernel_rfl))) (h := ?_)
                  refine F.ld (v := .int .i64 x170.fr) (hc := (sgS (blk_cell (j := 1) x195 (by kernel_rfl)) (Option.some_ne_none _))) (h := ?_)
                  refine F.q (v := .pointer (some ⟨b180, 2, none⟩)) (hr := (r_field (k := 2) rfl (ev_any (by kernel_rfl)) (by kernel_rfl))) (h := ?_)
                  refine F.ld (v := .int .i64 x170.to) (hc := (sgS (blk_cell (j := 2) x195 (by kernel_rfl)) (Option.some_ne_none _))) (h := ?_)
                  refine W.sc (vs := [.agg #[.int .i64 (RemovePipe_m0 m87 ps91 x170.id), .slice A204 ((RemovePipe_v0 m87 ps91 x170.id).length) d205], .int .i64 x170.fr, .int .i64 x170.to]) rfl rfl (by kernel_rfl) (by kernel_rfl) (by kernel_rfl) rfl (ShortestWay_impl (RemovePipe_m0 m87 ps91 x170.id) A204 ((RemovePipe_v0 m87 ps91 x170.id).length) d205 (RemovePipe_v0 m87 ps91 x170.id) x170.fr x170.to _ (Rd.kept rd235 (SG.below s242)) (by omega)) ?_
                  rintro e w251 ⟨A243, d244, rfl, r245, b250⟩
                  have s252 := SG.of_below s242 b250
                  refine ⟨_, rfl, s252, ?_⟩
                  refine F.nx ?_
                  have rd246 := own_rd r245
                  have fm247 := own_fm r245
                  have hl248 : (ShortestWay_v0 (RemovePipe_m0 m87 ps91 x170.id) (RemovePipe_v0 m87 ps91 x170.id) x170.fr x170.to).length = (ShortestWay_v0 (RemovePipe_m0 m87 ps91 x170.id) (RemovePipe_v0 m87 ps91 x170.id) x170.fr x170.to).length := rfl
                  have hb253 := ShortestWay_len (RemovePipe_m0 m87 ps91 x170.id) (RemovePipe_v0 m87 ps91 x170.id) x170.fr x170.to
                  rcases Bool.eq_false_or_eq_true (ShortestWay_v1 (RemovePipe_m0 m87 ps91 x170.id) (RemovePipe_v0 m87 ps91 x170.id) x170.fr x170.to) with q254 | q254
                  · rw [q254]
                    refine F.mv (v := .tuple #[.slice A243 ((ShortestWay_v0 (RemovePipe_m0 m87 ps91 x170.id) (RemovePipe_v0 m87 ps91 x170.id) x170.fr x170.to).length) d244, .bool true]) (h := ?_)
                    refine F.q (v := .slice A243 ((ShortestWay_v0 (RemovePipe_m0 m87 ps91 x170.id) (RemovePipe_v0 m87 ps91 x170.id) x170.fr x170.to).length) d244) (hr := (r_extract (vs := #[.slice A243 ((ShortestWay_v0 (RemovePipe_m0 m87 ps91 x170.id) (RemovePipe_v0 m87 ps91 x170.id) x170.fr x170.to).length) d244, .bool true]) rfl (ev_any (by kernel_rfl)) (by kernel_rfl))) (h := ?_)
                    refine F.q (v := .bool true) (hr := (r_extract (vs := #[.slice A243 ((ShortestWay_v0 (RemovePipe_m0 m87 ps91 x170.id) (RemovePipe_v0 m87 ps91 x170.id) x170.fr x170.to).length) d244, .bool true]) rfl (ev_any (by kernel_rfl)) (by kernel_rfl))) (h := ?_)
                    refine F.as (v := .slice A243 ((ShortestWay_v0 (RemovePipe_m0 m87 ps91 x170.id) (RemovePipe_v0 m87 ps91 x170.id) x170.fr x170.to).length) d244) (h := ?_)
                    refine F.as (v := .bool true) (h := ?_)
                    refine F.endF [(0, .slice A n c), (2, .bool false), (16, .pointer (some ⟨b101, 0, none⟩)), (17, .slice A121 ((BridgePipes_v0 m87 ps91).length) d122), (18, .bool true), (19, .slice A138 ((BridgePipes_v0 m87 ps91).length) d139), (20, .bool true), (21, .int .i64 ((j : Nat) : Int)), (22, .pointer (some ⟨b180, 0, none⟩)), (23, .pointer (some ⟨b215, 0, none⟩)), (24, .bool (RemovePipe_v1 m87 ps91 x170.id)), (26, .bool true), (169, .bool false), (177, .bool true)] (fun U255 => ?_)
                    have x40 := SG.blk s252 x40 (Option.some_ne_none _)
                    have x114 := SG.blk s252 x114 (Option.some_ne_none _)
                    have x195 := SG.blk s252 x195 (Option.some_ne_none _)
                    have x233 := SG.blk s252 x233 (Option.some_ne_none _)
                    have c256 := (SG.belowR c237 s252 (fun kq e => by cases e))
                    have rd257 := Rd.kept rd238 (SG.below s252)
                    have rd258 := Rd.kept rd239 (SG.below s252)
                    have rd259 := Rd.kept rd240 (SG.below s252)
                    have rd260 := Rd.kept rd241 (SG.below s252)
                    have rd261 := Rd.kept rd235 (SG.below s252)
                    refine h23 _ _ ?_
                    as_aux_lemma =>
                      refine wp_seq_k (fun K24 h24 => ?_)
                      refine W.region_plain (row := none) [(0, false), (1, false), (2, false), (3, false), (4, false), (5, false), (6, true), (7, false), (8, false), (9, false)] (by kernel_rfl) ?_
                      have s262 := SG.self w251 none
                      refine F.mv (v := .bool (RemovePipe_v1 m87 ps91 x170.id)) (h := ?_)
                      have q263 : (RemovePipe_v1 m87 ps91 x170.id) = true := hbl.1
                      rw [q263]
                      refine F.q (v := .bool false) (hr := (r_not (b := true) rfl (ev_any (by kernel_rfl)) rfl)) (h := ?_)
                      refine F.mv (v := .bool false) (h := ?_)
                      refine F.mv (v := .slice A121 ((BridgePipes_v0 m87 ps91).length) d122) (h := ?_)
                      refine F.q (v := .pointer (some ⟨b180, 0, none⟩)) (hr := (r_field0 rfl (ev_any (by kernel_rfl)) (by kernel_rfl))) (h := ?_)
                      refine F.ld (v := .int .i64 x170.id) (hc := (sgS (blk_cell (j := 0) x195 (by kernel_rfl)) (Option.some_ne_none _))) (h := ?_)
                      refine W.sc (vs := [.slice A121 ((BridgePipes_v0 m87 ps91).length) d122, .int .i64 x170.id]) rfl rfl (by kernel_rfl) (by kernel_rfl) (by kernel_rfl) rfl (vHas_any A121 ((BridgePipes_v0 m87 ps91).length) d122 (BridgePipes_v0 m87 ps91) x170.id _ (Rd.kept rd259 (SG.below s262)) (by omega)) ?_
                      rintro e w265 ⟨rfl, b264⟩
                      have s266 := SG.of_below s262 b264
                      refine ⟨_, rfl, s266, ?_⟩
                      refine F.nx ?_
                      have q267 : ((BridgePipes_v0 m87 ps91).contains x170.id) = false := bnot_t hbl.2 q254
                      rw [q267]
                      refine F.mv (v := .bool true) (h := ?_)
                      refine F.q (v := .bool false) (hr := (r_eqlB (m := false) (n := true) rfl (ev_any (by kernel_rfl)) (ev_any (by kernel_rfl)) (by kernel_rfl) rfl)) (h := ?_)
                      refine F.q (v := .bool false) (hr := (r_pick (b := false) rfl (ev_any (by kernel_rfl)) (ev_any (by kernel_rfl)))) (h := ?_)
                      refine F.endF [(0, .slice A n c), (2, .bool false), (16, .pointer (some ⟨b101, 0, none⟩)), (17, .slice A121 ((BridgePipes_v0 m87 ps91).length) d122), (18, .bool true), (19, .slice A138 ((BridgePipes_v0 m87 ps91).length) d139), (20, .bool true), (21, .int .i64 ((j : Nat) : Int)), (22, .pointer (some ⟨b180, 0, none⟩)), (23, .pointer (some ⟨b215, 0, none⟩)), (24, .bool true), (26, .bool true), (169, .bool false), (177, .bool true), (210, .bool false)] (fun U268 => ?_)
                      have x40 := SG.blk s266 x40 (Option.some_ne_none _)
                      have x114 := SG.blk s266 x114 (Option.some_ne_none _)
                      have x195 := SG.blk s266 x195 (Option.some_ne_none _)
                      have x233 := SG.blk s266 x233 (Option.some_ne_none _)
                      have c269 := (SG.belowR c256 s266 (fun kq e => by cases e))
                      have rd270 := Rd.kept rd257 (SG.below s266)
                      have rd271 := Rd.kept rd258 (SG.below s266)
                      have rd272 := Rd.kept rd259 (SG.below s266)
                      have rd273 := Rd.kept rd260 (SG.below s266)
                      have rd274 := Rd.kept rd261 (SG.below s266)
                      have rd275 := Rd.kept rd246 (SG.below s266)
                      refine h24 _ _ ?_
                      refine wp_cond_false (by kernel_rfl) ?_
                      refine wp_skip ?_
                      refine h20 _ _ ?_
                      refine W.region_quiet [(0, false), (1, false), (2, false)] (by kernel_rfl) ?_
                      refine F.mv (v := .int .i64 ((j : Nat) : Int)) (h := ?_)
                      refine F.q (v := .int .i64 ((j + 1 : Nat) : Int)) (hr := (r_add (m := ((j : Nat) : Int)) (n := 1) (z := ((j + 1 : Nat) : Int)) rfl (ev_any (by kernel_rfl)) (ev_any (by kernel_rfl)) (by omega) (by omega))) (h := ?_)
                      refine F.as (v := .int .i64 ((j + 1 : Nat) : Int)) (h := ?_)
                      refine F.endF [(0, .slice A n c), (2, .bool false), (16, .pointer (some ⟨b101, 0, none⟩)), (17, .slice A121 ((BridgePipes_v0 m87 ps91).length) d122), (18, .bool true), (19, .slice A138 ((BridgePipes_v0 m87 ps91).length) d139), (20, .bool true), (21, .int .i64 ((j + 1 : Nat) : Int)), (22, .pointer (some ⟨b180, 0, none⟩)), (23, .pointer (some ⟨b215, 0, none⟩)), (24, .bool true), (26, .bool true), (169, .bool false), (177, .bool true), (210, .bool false)] (fun U276 => ?_)
                      exact h17 _ _ _ (by omega : (n89 - (j + 1)) < _) ⟨j + 1, (fun iU9 => lk [(0, .slice A n c), (2, .bool false), (16, .pointer (some ⟨b101, 0, none⟩)), (17, .slice A121 ((BridgePipes_v0 m87 ps91).length) d122), (18, .bool true), (19, .slice A138 ((BridgePipes_v0 m87 ps91).length) d139), (20, .bool true), (21, .int .i64 ((j + 1 : Nat) : Int)), (22, .pointer (some ⟨b180, 0, none⟩)), (23, .pointer (some ⟨b215, 0, none⟩)), (24, .bool true), (26, .bool true), (169, .bool false), (177, .bool true), (210, .bool false)] iU9 (U276 iU9)), (by kernel_rfl), rfl, (by omega), x40, x114, rd272, rd273, rd270, rd271, c269⟩
                  · rw [q254]
                    refine F.mv (v := .tuple #[.slice A243 ((ShortestWay_v0 (RemovePipe_m0 m87 ps91 x170.id) (RemovePipe_v0 m87 ps91 x170.id) x170.fr x170.to).length) d244, .bool false]) (h := ?_)
                    refine F.q (v := .slice A243 ((ShortestWay_v0 (RemovePipe_m0 m87 ps91 x170.id) (RemovePipe_v0 m87 ps91 x170.id) x170.fr x170.to).length) d244) (hr := (r_extract (vs := #[.slice A243 ((ShortestWay_v0 (RemovePipe_m0 m87 ps91 x170.id) (RemovePipe_v0 m87 ps91 x170.id) x170.fr x170.to).length) d244, .bool false]) rfl (ev_any (by kernel_rfl)) (by kernel_rfl))) (h := ?_)
                    refine F.q (v := .bool false) (hr := (r_extract (vs := #[.slice A243 ((ShortestWay_v0 (RemovePipe_m0 m87 ps91 x170.id) (RemovePipe_v0 m87 ps91 x170.id) x170.fr x170.to).length) d244, .bool false]) rfl (ev_any (by kernel_rfl)) (by kernel_rfl))) (h := ?_)
                    refine F.as (v := .slice A243 ((ShortestWay_v0 (RemovePipe_m0 m87 ps91 x170.id) (RemovePipe_v0 m87 ps91 x170.id) x170.fr x170.to).length) d244) (h := ?_)
                    refine F.as (v := .bool false) (h := ?_)
                    refine F.endF [(0, .slice A n c), (2, .bool false), (16, .pointer (some ⟨b101, 0, none⟩)), (17, .slice A121 ((BridgePipes_v0 m87 ps91).length) d122), (18, .bool true), (19, .slice A138 ((BridgePipes_v0 m87 ps91).length) d139), (20, .bool true), (21, .int .i64 ((j : Nat) : Int)), (22, .pointer (some ⟨b180, 0, none⟩)), (23, .pointer (some ⟨b215, 0, none⟩)), (24, .bool (RemovePipe_v1 m87 ps91 x170.id)), (26, .bool false), (169, .bool false), (177, .bool true)] (fun U277 => ?_)
                    have x40 := SG.blk s252 x40 (Option.some_ne_none _)
                    have x114 := SG.blk s252 x114 (Option.some_ne_none _)
                    have x195 := SG.blk s252 x195 (Option.some_ne_none _)
                    have x233 := SG.blk s252 x233 (Option.some_ne_none _)
                    have c278 := (SG.belowR c237 s252 (fun kq e => by cases e))
                    have rd279 := Rd.kept rd238 (SG.below s252)
                    have rd280 := Rd.kept rd239 (SG.below s252)
                    have rd281 := Rd.kept rd240 (SG.below s252)
                    have rd282 := Rd.kept rd241 (SG.below s252)
                    have rd283 := Rd.kept rd235 (SG.below s252)
                    refine h23 _ _ ?_
                    as_aux_lemma =>
                      refine wp_seq_k (fun K25 h25 => ?_)
                      refine W.region_plain (row := none) [(0, false), (1, false), (2, false), (3, false), (4, false), (5, false), (6, true), (7, false), (8, false), (9, false)] (by kernel_rfl) ?_
                      have s284 := SG.self w251 none
                      refine F.mv (v := .bool (RemovePipe_v1 m87 ps91 x170.id)) (h := ?_)
                      have q285 : (RemovePipe_v1 m87 ps91 x170.id) = true := hbl.1
                      rw [q285]
                      refine F.q (v := .bool false) (hr := (r_not (b := true) rfl (ev_any (by kernel_rfl)) rfl)) (h := ?_)
                      refine F.mv (v := .bool false) (h := ?_)
                      refine F.mv (v := .slice A121 ((BridgePipes_v0 m87 ps91).length) d122) (h := ?_)
                      refine F.q (v := .pointer (some ⟨b180, 0, none⟩)) (hr := (r_field0 rfl (ev_any (by kernel_rfl)) (by kernel_rfl))) (h := ?_)
                      refine F.ld (v := .int .i64 x170.id) (hc := (sgS (blk_cell (j := 0) x195 (by kernel_rfl)) (Option.some_ne_none _))) (h := ?_)
                      refine W.sc (vs := [.slice A121 ((BridgePipes_v0 m87 ps91).length) d122, .int .i64 x170.id]) rfl rfl (by kernel_rfl) (by kernel_rfl) (by kernel_rfl) rfl (vHas_any A121 ((BridgePipes_v0 m87 ps91).length) d122 (BridgePipes_v0 m87 ps91) x170.id _ (Rd.kept rd281 (SG.below s284)) (by omega)) ?_
                      rintro e w287 ⟨rfl, b286⟩
                      have s288 := SG.of_below s284 b286
                      refine ⟨_, rfl, s288, ?_⟩
                      refine F.nx ?_
                      have q289 : ((BridgePipes_v0 m87 ps91).contains x170.id) = true := bnot_f hbl.2 q254
                      rw [q289]
                      refine F.mv (v := .bool false) (h := ?_)
                      refine F.q (v := .bool false) (hr := (r_eqlB (m := true) (n := false) rfl (ev_any (by kernel_rfl)) (ev_any (by kernel_rfl)) (by kernel_rfl) rfl)) (h := ?_)
                      refine F.q (v := .bool false) (hr := (r_pick (b := false) rfl (ev_any (by kernel_rfl)) (ev_any (by kernel_rfl)))) (h := ?_)
                      refine F.endF [(0, .slice A n c), (2, .bool false), (16, .pointer (some ⟨b101, 0, none⟩)), (17, .slice A121 ((BridgePipes_v0 m87 ps91).length) d122), (18, .bool true), (19, .slice A138 ((BridgePipes_v0 m87 ps91).length) d139), (20, .bool true), (21, .int .i64 ((j : Nat) : Int)), (22, .pointer (some ⟨b180, 0, none⟩)), (23, .pointer (some ⟨b215, 0, none⟩)), (24, .bool true), (26, .bool false), (169, .bool false), (177, .bool true), (210, .bool false)] (fun U290 => ?_)
                      have x40 := SG.blk s288 x40 (Option.some_ne_none _)
                      have x114 := SG.blk s288 x114 (Option.some_ne_none _)
                      have x195 := SG.blk s288 x195 (Option.some_ne_none _)
                      have x233 := SG.blk s288 x233 (Option.some_ne_none _)
                      have c291 := (SG.belowR c278 s288 (fun kq e => by cases e))
                      have rd292 := Rd.kept rd279 (SG.below s288)
                      have rd293 := Rd.kept rd280 (SG.below s288)
                      have rd294 := Rd.kept rd281 (SG.below s288)
                      have rd295 := Rd.kept rd282 (SG.below s288)
                      have rd296 := Rd.kept rd283 (SG.below s288)
                      have rd297 := Rd.kept rd246 (SG.below s288)
                      refine h25 _ _ ?_
                      refine wp_cond_false (by kernel_rfl) ?_
                      refine wp_skip ?_
                      refine h20 _ _ ?_
                      refine W.region_quiet [(0, false), (1, false), (2, false)] (by kernel_rfl) ?_
                      refine F.mv (v := .int .i64 ((j : Nat) : Int)) (h := ?_)
                      refine F.q (v := .int .i64 ((j + 1 : Nat) : Int)) (hr := (r_add (m := ((j : Nat) : Int)) (n := 1) (z := ((j + 1 : Nat) : Int)) rfl (ev_any (by kernel_rfl)) (ev_any (by kernel_rfl)) (by omega) (by omega))) (h := ?_)
                      refine F.as (v := .int .i64 ((j + 1 : Nat) : Int)) (h := ?_)
                      refine F.endF [(0, .slice A n c), (2, .bool false), (16, .pointer (some ⟨b101, 0, none⟩)), (17, .slice A121 ((BridgePipes_v0 m87 ps91).length) d122), (18, .bool true), (19, .slice A138 ((BridgePipes_v0 m87 ps91).length) d139), (20, .bool true), (21, .int .i64 ((j + 1 : Nat) : Int)), (22, .pointer (some ⟨b180, 0, none⟩)), (23, .pointer (some ⟨b215, 0, none⟩)), (24, .bool true), (26, .bool false), (169, .bool false), (177, .bool true), (210, .bool false)] (fun U298 => ?_)
                      exact h17 _ _ _ (by omega : (n89 - (j + 1)) < _) ⟨j + 1, (fun iU9 => lk [(0, .slice A n c), (2, .bool false), (16, .pointer (some ⟨b101, 0, none⟩)), (17, .slice A121 ((BridgePipes_v0 m87 ps91).length) d122), (18, .bool true), (19, .slice A138 ((BridgePipes_v0 m87 ps91).length) d139), (20, .bool true), (21, .int .i64 ((j + 1 : Nat) : Int)), (22, .pointer (some ⟨b180, 0, none⟩)), (23, .pointer (some ⟨b215, 0, none⟩)), (24, .bool true), (26, .bool false), (169, .bool false), (177, .bool true), (210, .bool false)] iU9 (U298 iU9)), (by kernel_rfl), rfl, (by omega), x40, x114, rd294, rd295, rd292, rd293, c291⟩
              · refine F.q (v := .bool false) (hr := (r_lss (m := ((j : Nat) : Int)) (n := ((n89 : Nat) : Int)) rfl (ev_any (by kernel_rfl)) (ev_any (by kernel_rfl)) (decide_eq_false q167))) (h := ?_)
                refine F.mv (v := .bool false) (h := ?_)
                refine F.sp rfl (h := ?_)
                refine F.q (v := .bool false) (hr := (r_pick (b := false) rfl (ev_any (by kernel_rfl)) (ev_any (by kernel_rfl)))) (h := ?_)
                refine F.endF [(0, .slice A n c), (2, .bool false), (16, .pointer (some ⟨b101, 0, none⟩)), (17, .slice A121 ((BridgePipes_v0 m87 ps91).length) d122), (18, .bool true), (19, .slice A138 ((BridgePipes_v0 m87 ps91).length) d139), (20, .bool true), (21, .int .i64 ((j : Nat) : Int)), (169, .bool false), (177, .bool false)] (fun U299 => ?_)
                refine h19 _ _ ?_
                refine wp_cond_false (by kernel_rfl) ?_
                refine wp_exit ?_
                refine h15 _ _ ?_
                refine wp_seq_k (fun K26 h26 => ?_)
                refine W.region_quiet [(0, false)] (by kernel_rfl) ?_
                refine F.as (v := .bool true) (h := ?_)
                refine F.endF [(0, .slice A n c), (2, .bool true), (16, .pointer (some ⟨b101, 0, none⟩)), (17, .slice A121 ((BridgePipes_v0 m87 ps91).length) d122), (18, .bool true), (19, .slice A138 ((BridgePipes_v0 m87 ps91).length) d139), (20, .bool true), (21, .int .i64 ((j : Nat) : Int)), (169, .bool false), (177, .bool false)] (fun U300 => ?_)
                refine h26 _ _ ?_
                refine wp_ret ?_
                try simp only [Exit.then]
                refine ret1 (v := .bool true) rfl (by kernel_rfl) ?_
                exact ⟨rfl, c166⟩
          · rw [q132]
            refine F.mv (v := .tuple #[.slice A121 ((BridgePipes_v0 m87 ps91).length) d122, .bool false]) (h := ?_)
            refine F.q (v := .slice A121 ((BridgePipes_v0 m87 ps91).length) d122) (hr := (r_extract (vs := #[.slice A121 ((BridgePipes_v0 m87 ps91).length) d122, .bool false]) rfl (ev_any (by kernel_rfl)) (by kernel_rfl))) (h := ?_)
            refine F.q (v := .bool false) (hr := (r_extract (vs := #[.slice A121 ((BridgePipes_v0 m87 ps91).length) d122, .bool false]) rfl (ev_any (by kernel_rfl)) (by kernel_rfl))) (h := ?_)
            refine F.as (v := .slice A121 ((BridgePipes_v0 m87 ps91).length) d122) (h := ?_)
            refine F.as (v := .bool false) (h := ?_)
            refine F.endF [(0, .slice A n c), (2, .bool false), (16, .pointer (some ⟨b101, 0, none⟩)), (17, .slice A121 ((BridgePipes_v0 m87 ps91).length) d122), (18, .bool false)] (fun U301 => ?_)
            have x40 := SG.blk s130 x40 (Option.some_ne_none _)
            have x114 := SG.blk s130 x114 (Option.some_ne_none _)
            have c302 := (SG.belowR c118 s130 (fun kq e => by cases e))
            have rd303 := Rd.kept rd119 (SG.below s130)
            have rd304 := Rd.kept rd116 (SG.below s130)
            refine h11 _ _ ?_
            as_aux_lemma =>
              refine wp_seq_k (fun K27 h27 => ?_)
              refine wp_seq_k (fun K28 h28 => ?_)
              refine W.region_plain (row := none) [(0, false), (1, true), (2, false), (3, false), (4, false), (5, false), (6, false)] (by kernel_rfl) ?_
              have s305 := SG.self w129 none
              refine F.q (v := .agg #[.int .i64 m87, .slice A88 n89 c90]) (hr := (r_load2 rfl (ev_any (by kernel_rfl)) (by kernel_rfl) (by kernel_rfl) (sgS (blk_cell (j := 0) x114 (by kernel_rfl)) (Option.some_ne_none _)) (sgS (blk_cell (j := 1) x114 (by kernel_rfl)) (Option.some_ne_none _)))) (h := ?_)
              refine W.sc (vs := [.agg #[.int .i64 m87, .slice A88 n89 c90]]) rfl rfl (by kernel_rfl) (by kernel_rfl) (by kernel_rfl) rfl (BridgePipes_spec m87 A88 n89 c90 ps91 _ (Rd.kept rd304 (SG.below s305)) (by omega) fm95) ?_
              rintro e w314 ⟨A306, d307, rfl, r308, b313⟩
              have s315 := SG.of_below s305 b313
              refine ⟨_, rfl, s315, ?_⟩
              refine F.nx ?_
              have rd309 := own_rd r308
              have fm310 := own_fm r308
              have hl311 : (BridgePipes_v0 m87 ps91).length = (BridgePipes_v0 m87 ps91).length := rfl
              have hb316 := BridgePipes_len m87 ps91
              rw [q132]
              refine F.mv (v := .tuple #[.slice A306 ((BridgePipes_v0 m87 ps91).length) d307, .bool false]) (h := ?_)
              refine F.q (v := .slice A306 ((BridgePipes_v0 m87 ps91).length) d307) (hr := (r_extract (vs := #[.slice A306 ((BridgePipes_v0 m87 ps91).length) d307, .bool false]) rfl (ev_any (by kernel_rfl)) (by kernel_rfl))) (h := ?_)
              refine F.q (v := .bool false) (hr := (r_extract (vs := #[.slice A306 ((BridgePipes_v0 m87 ps91).length) d307, .bool false]) rfl (ev_any (by kernel_rfl)) (by kernel_rfl))) (h := ?_)
              refine F.as (v := .slice A306 ((BridgePipes_v0 m87 ps91).length) d307) (h := ?_)
              refine F.as (v := .bool false) (h := ?_)
              refine F.endF [(0, .slice A n c), (2, .bool false), (16, .pointer (some ⟨b101, 0, none⟩)), (17, .slice A121 ((BridgePipes_v0 m87 ps91).length) d122), (18, .bool false), (19, .slice A306 ((BridgePipes_v0 m87 ps91).length) d307), (20, .bool false)] (fun U318 => ?_)
              have x40 := SG.blk s315 x40 (Option.some_ne_none _)
              have x114 := SG.blk s315 x114 (Option.some_ne_none _)
              have c319 := (SG.belowR c302 s315 (fun kq e => by cases e))
              have rd320 := Rd.kept rd303 (SG.below s315)
              have rd321 := Rd.kept rd304 (SG.below s315)
              have rd322 := Rd.kept rd124 (SG.below s315)
              refine h28 _ _ ?_
              refine wp_seq_k (fun K29 h29 => ?_)
              refine W.region_plain (row := none) [(0, false), (1, false), (2, false), (3, false), (4, false), (5, false), (6, true), (7, false), (8, false)] (by kernel_rfl) ?_
              have s323 := SG.self w314 none
              refine F.mv (v := .bool false) (h := ?_)
              refine F.mv (v := .bool false) (h := ?_)
              refine F.q (v := .bool false) (hr := (r_neqB (m := false) (n := false) rfl (ev_any (by kernel_rfl)) (ev_any (by kernel_rfl)) (by kernel_rfl) rfl)) (h := ?_)
              refine F.mv (v := .bool false) (h := ?_)
              refine F.mv (v := .slice A121 ((BridgePipes_v0 m87 ps91).length) d122) (h := ?_)
              refine F.mv (v := .slice A306 ((BridgePipes_v0 m87 ps91).length) d307) (h := ?_)
              refine W.sc (vs := [.slice A121 ((BridgePipes_v0 m87 ps91).length) d122, .slice A306 ((BridgePipes_v0 m87 ps91).length) d307]) rfl rfl (by kernel_rfl) (by kernel_rfl) (by kernel_rfl) rfl (vInts_same A121 A306 ((BridgePipes_v0 m87 ps91).length) d122 d307 (BridgePipes_v0 m87 ps91) _ (Rd.kept rd322 (SG.below s323)) (Rd.kept rd309 (SG.below s323)) (by omega)) ?_
              rintro e w325 ⟨rfl, b324⟩
              have s326 := SG.of_below s323 b324
              refine ⟨_, rfl, s326, ?_⟩
              refine F.nx ?_
              refine F.q (v := .bool false) (hr := (r_not (b := true) rfl (ev_any (by kernel_rfl)) rfl)) (h := ?_)
              refine F.q (v := .bool false) (hr := (r_pick (b := false) rfl (ev_any (by kernel_rfl)) (ev_any (by kernel_rfl)))) (h := ?_)
              refine F.endF [(0, .slice A n c), (2, .bool false), (16, .pointer (some ⟨b101, 0, none⟩)), (17, .slice A121 ((BridgePipes_v0 m87 ps91).length) d122), (18, .bool false), (19, .slice A306 ((BridgePipes_v0 m87 ps91).length) d307), (20, .bool false), (169, .bool false)] (fun U327 => ?_)
              have x40 := SG.blk s326 x40 (Option.some_ne_none _)
              have x114 := SG.blk s326 x114 (Option.some_ne_none _)
              have c328 := (SG.belowR c319 s326 (fun kq e => by cases e))
              have rd329 := Rd.kept rd320 (SG.below s326)
              have rd330 := Rd.kept rd321 (SG.below s326)
              have rd331 := Rd.kept rd322 (SG.below s326)
              have rd332 := Rd.kept rd309 (SG.below s326)
              refine h29 _ _ ?_
              refine wp_cond_false (by kernel_rfl) ?_
              refine wp_skip ?_
              refine h27 _ _ ?_
              refine wp_seq_k (fun K30 h30 => ?_)
              refine wp_seq_k (fun K31 h31 => ?_)
              refine W.region_quiet [(0, false)] (by kernel_rfl) ?_
              refine F.as (v := .int .i64 0) (h := ?_)
              refine F.endF [(0, .slice A n c), (2, .bool false), (16, .pointer (some ⟨b101, 0, none⟩)), (17, .slice A121 ((BridgePipes_v0 m87 ps91).length) d122), (18, .bool false), (19, .slice A306 ((BridgePipes_v0 m87 ps91).length) d307), (20, .bool false), (21, .int .i64 0), (169, .bool false)] (fun U333 => ?_)
              refine h31 _ _ ?_
              as_aux_lemma =>
                refine wp_block ?_
                refine loopK (fun am2 aa2 wl2 => ∃ (j : Nat) (U2 : Nat → Value), aa2 = ⟨(fr U2 [(0, .slice A n c), (2, .bool false), (16, .pointer (some ⟨b101, 0, none⟩)), (17, .slice A121 ((BridgePipes_v0 m87 ps91).length) d122), (18, .bool false), (19, .slice A306 ((BridgePipes_v0 m87 ps91).length) d307), (20, .bool false), (21, .int .i64 ((j : Nat) : Int)), (169, .bool false)] 211 0).toArray, []⟩ ∧ (am2 = n89 - j) ∧ (j ≤ n89) ∧ (wl2.heap[b29]? = some (.cells #[.int .i64 m13, .slice A14 n15 c16] 31 (0, 0))) ∧ (wl2.heap[b101]? = some (.cells #[.int .i64 m87, .slice A88 n89 c90] 31 (0, 0))) ∧ (Rd wl2 1 A121 ((BridgePipes_v0 m87 ps91).length) (intsV (BridgePipes_v0 m87 ps91))) ∧ (Rd wl2 1 A306 ((BridgePipes_v0 m87 ps91).length) (intsV (BridgePipes_v0 m87 ps91))) ∧ (Rd wl2 4 A14 n15 (pipesV ps17)) ∧ (Rd wl2 4 A88 n89 (pipesV ps91)) ∧ (Below w.heap.size w wl2)) (n89 - 0) ?_ ?_
                · exact ⟨0, (fun iU9 => lk [(0, .slice A n c), (2, .bool false), (16, .pointer (some ⟨b101, 0, none⟩)), (17, .slice A121 ((BridgePipes_v0 m87 ps91).length) d122), (18, .bool false), (19, .slice A306 ((BridgePipes_v0 m87 ps91).length) d307), (20, .bool false), (21, .int .i64 0), (169, .bool false)] iU9 (U333 iU9)), (by kernel_rfl), rfl, (Nat.zero_le _), x40, x114, rd331, rd332, rd329, rd330, c328⟩
                rintro am2 aa2 wl2 K32 h32 ⟨j, U2, rfl, rfl, hj, x40, x114, kl2_0, kl2_1, kl2_2, kl2_3, c334⟩
                refine wp_seq_k (fun K33 h33 => ?_)
                refine wp_seq_k (fun K34 h34 => ?_)
                refine W.region_quiet [(0, false), (1, false), (2, false), (3, false), (4, false), (5, false), (6, false), (7, false)] (by kernel_rfl) ?_
                refine F.mv (v := .int .i64 ((j : Nat) : Int)) (h := ?_)
                refine F.q (v := .pointer (some ⟨b101, 1, none⟩)) (hr := (r_field (k := 1) rfl (ev_any (by kernel_rfl)) (by kernel_rfl))) (h := ?_)
                refine F.ld (v := .slice A88 n89 c90) (hc := (eqS (blk_cell (j := 1) x114 (by kernel_rfl)))) (h := ?_)
                refine F.q (v := .int .i64 ((n89 : Nat) : Int)) (hr := (r_len (A := A88) (n := n89) (c := c90) rfl (ev_any (by kernel_rfl)) (by kernel_rfl))) (h := ?_)
                by_cases q335 : (((j : Nat) : Int) : Int) < (((n89 : Nat) : Int) : Int)
                · refine F.q (v := .bool true) (hr := (r_lss (m := ((j : Nat) : Int)) (n := ((n89 : Nat) : Int)) rfl (ev_any (by kernel_rfl)) (ev_any (by kernel_rfl)) (decide_eq_true q335))) (h := ?_)
                  refine F.mv (v := .bool true) (h := ?_)
                  refine F.mv (v := .bool false) (h := ?_)
                  refine F.q (v := .bool false) (hr := (r_pick (b := true) rfl (ev_any (by kernel_rfl)) (ev_any (by kernel_rfl)))) (h := ?_)
                  refine F.endF [(0, .slice A n c), (2, .bool false), (16, .pointer (some ⟨b101, 0, none⟩)), (17, .slice A121 ((BridgePipes_v0 m87 ps91).length) d122), (18, .bool false), (19, .slice A306 ((BridgePipes_v0 m87 ps91).length) d307), (20, .bool false), (21, .int .i64 ((j : Nat) : Int)), (169, .bool false), (177, .bool false)] (fun U336 => ?_)
                  refine h34 _ _ ?_
                  refine wp_cond_false (by kernel_rfl) ?_
                  refine wp_exit ?_
                  refine h30 _ _ ?_
                  refine wp_seq_k (fun K35 h35 => ?_)
                  refine W.region_quiet [(0, false)] (by kernel_rfl) ?_
                  refine F.as (v := .bool true) (h := ?_)
                  refine F.endF [(0, .slice A n c), (2, .bool true), (16, .pointer (some ⟨b101, 0, none⟩)), (17, .slice A121 ((BridgePipes_v0 m87 ps91).length) d122), (18, .bool false), (19, .slice A306 ((BridgePipes_v0 m87 ps91).length) d307), (20, .bool false), (21, .int .i64 ((j : Nat) : Int)), (169, .bool false), (177, .bool false)] (fun U337 => ?_)
                  refine h35 _ _ ?_
                  refine wp_ret ?_
                  try simp only [Exit.then]
                  refine ret1 (v := .bool true) rfl (by kernel_rfl) ?_
                  exact ⟨rfl, c334⟩
                · refine F.q (v := .bool false) (hr := (r_lss (m := ((j : Nat) : Int)) (n := ((n89 : Nat) : Int)) rfl (ev_any (by kernel_rfl)) (ev_any (by kernel_rfl)) (decide_eq_false q335))) (h := ?_)
                  refine F.mv (v := .bool false) (h := ?_)
                  refine F.sp rfl (h := ?_)
                  refine F.q (v := .bool false) (hr := (r_pick (b := false) rfl (ev_any (by kernel_rfl)) (ev_any (by kernel_rfl)))) (h := ?_)
                  refine F.endF [(0, .slice A n c), (2, .bool false), (16, .pointer (some ⟨b101, 0, none⟩)), (17, .slice A121 ((BridgePipes_v0 m87 ps91).length) d122), (18, .bool false), (19, .slice A306 ((BridgePipes_v0 m87 ps91).length) d307), (20, .bool false), (21, .int .i64 ((j : Nat) : Int)), (169, .bool false), (177, .bool false)] (fun U338 => ?_)
                  refine h34 _ _ ?_
                  refine wp_cond_false (by kernel_rfl) ?_
                  refine wp_exit ?_
                  refine h30 _ _ ?_
                  refine wp_seq_k (fun K36 h36 => ?_)
                  refine W.region_quiet [(0, false)] (by kernel_rfl) ?_
                  refine F.as (v := .bool true) (h := ?_)
                  refine F.endF [(0, .slice A n c), (2, .bool true), (16, .pointer (some ⟨b101, 0, none⟩)), (17, .slice A121 ((BridgePipes_v0 m87 ps91).length) d122), (18, .bool false), (19, .slice A306 ((BridgePipes_v0 m87 ps91).length) d307), (20, .bool false), (21, .int .i64 ((j : Nat) : Int)), (169, .bool false), (177, .bool false)] (fun U339 => ?_)
                  refine h36 _ _ ?_
                  refine wp_ret ?_
                  try simp only [Exit.then]
                  refine ret1 (v := .bool true) rfl (by kernel_rfl) ?_
                  exact ⟨rfl, c334⟩
        intro K37 h37
        refine wp_seq_k (fun K38 h38 => ?_)
        refine W.region_quiet [(0, false)] (by kernel_rfl) ?_
        refine F.mv (v := .bool (ShortestWay_v1 m13 ps17 x24 x25)) (h := ?_)
        refine F.endF [(0, .slice A n c), (2, .bool false), (3, .pointer (some ⟨b29, 0, none⟩)), (4, .int .i64 x24), (5, .int .i64 x25), (6, .slice A46 ((ShortestWay_v0 m13 ps17 x24 x25).length) d47), (7, .bool (ShortestWay_v1 m13 ps17 x24 x25)), (8, .slice A61 ((ShortestWay_v0 m13 ps17 x24 x25).length) d62), (9, .bool (ShortestWay_v1 m13 ps17 x24 x25)), (28, .bool false), (57, .bool false), (58, .bool (ShortestWay_v1 m13 ps17 x24 x25))] (fun U340 => ?_)
        refine h38 _ _ ?_
        rcases Bool.eq_false_or_eq_true (ShortestWay_v1 m13 ps17 x24 x25) with q341 | q341
        · rw [q341]
          refine wp_cond_true (by kernel_rfl) ?_
          refine wp_seq_k (fun K39 h39 => ?_)
          refine W.region_quiet [(0, false), (1, false)] (by kernel_rfl) ?_
          refine F.mv (v := .int .i64 x24) (h := ?_)
          refine F.as (v := .int .i64 x24) (h := ?_)
          refine F.endF [(0, .slice A n c), (2, .bool false), (3, .pointer (some ⟨b29, 0, none⟩)), (4, .int .i64 x24), (5, .int .i64 x25), (6, .slice A46 ((ShortestWay_v0 m13 ps17 x24 x25).length) d47), (7, .bool true), (8, .slice A61 ((ShortestWay_v0 m13 ps17 x24 x25).length) d62), (9, .bool true), (10, .int .i64 x24), (28, .bool false), (57, .bool false), (58, .bool true)] (fun U342 => ?_)
          refine h39 _ _ ?_
          as_aux_lemma =>
            refine wp_seq_k (fun K40 h40 => ?_)
            refine wp_seq_k (fun K41 h41 => ?_)
            refine W.region_quiet [(0, false)] (by kernel_rfl) ?_
            refine F.as (v := .int .i64 0) (h := ?_)
            refine F.endF [(0, .slice A n c), (2, .bool false), (3, .pointer (some ⟨b29, 0, none⟩)), (4, .int .i64 x24), (5, .int .i64 x25), (6, .slice A46 ((ShortestWay_v0 m13 ps17 x24 x25).length) d47), (7, .bool true), (8, .slice A61 ((ShortestWay_v0 m13 ps17 x24 x25).length) d62), (9, .bool true), (10, .int .i64 x24), (11, .int .i64 0), (28, .bool false), (57, .bool false), (58, .bool true)] (fun U343 => ?_)
            refine h41 _ _ ?_
            refine wp_block ?_
            obtain ⟨hgN, hpI, hri, _⟩ := way_wise q341
            refine loopK (fun am0 aa0 wl0 => ∃ (i : Nat) (u : Int) (U0 : Nat → Value), aa0 = ⟨(fr U0 [(0, .slice A n c), (2, .bool false), (3, .pointer (some ⟨b29, 0, none⟩)), (4, .int .i64 x24), (5, .int .i64 x25), (6, .slice A46 ((ShortestWay_v0 m13 ps17 x24 x25).length) d47), (7, .bool true), (8, .slice A61 ((ShortestWay_v0 m13 ps17 x24 x25).length) d62), (9, .bool true), (10, .int .i64 u), (11, .int .i64 ((i : Nat) : Int)), (28, .bool false), (57, .bool false), (58, .bool true)] 211 0).toArray, []⟩ ∧ (am0 = (ShortestWay_v0 m13 ps17 x24 x25).length - i) ∧ (i ≤ (ShortestWay_v0 m13 ps17 x24 x25).length) ∧ (Onway ps17 x25 (ShortestWay_v0 m13 ps17 x24 x25) i u) ∧ (wl0.heap[b29]? = some (.cells #[.int .i64 m13, .slice A14 n15 c16] 31 (0, 0))) ∧ (Rd wl0 1 A46 ((ShortestWay_v0 m13 ps17 x24 x25).length) (intsV (ShortestWay_v0 m13 ps17 x24 x25))) ∧ (Rd wl0 1 A61 ((ShortestWay_v0 m13 ps17 x24 x25).length) (intsV (ShortestWay_v0 m13 ps17 x24 x25))) ∧ (Rd wl0 4 A14 n15 (pipesV ps17)) ∧ (Below w.heap.size w wl0)) ((ShortestWay_v0 m13 ps17 x24 x25).length - 0) ?_ ?_
            · exact ⟨0, x24, (fun iU9 => lk [(0, .slice A n c), (2, .bool false), (3, .pointer (some ⟨b29, 0, none⟩)), (4, .int .i64 x24), (5, .int .i64 x25), (6, .slice A46 ((ShortestWay_v0 m13 ps17 x24 x25).length) d47), (7, .bool true), (8, .slice A61 ((ShortestWay_v0 m13 ps17 x24 x25).length) d62), (9, .bool true), (10, .int .i64 x24), (11, .int .i64 0), (28, .bool false), (57, .bool false), (58, .bool true)] iU9 (U343 iU9)), (by kernel_rfl), rfl, (Nat.zero_le _), (way_start q341), x40, rd83, rd84, rd82, c81⟩
            rintro am0 aa0 wl0 K42 h42 ⟨i, u, U0, rfl, rfl, hi, how, x40, kl0_0, kl0_1, kl0_2, c344⟩
            refine wp_seq_k (fun K43 h43 => ?_)
            refine wp_seq_k (fun K44 h44 => ?_)
            refine W.region_quiet [(0, false), (1, false), (2, false), (3, false)] (by kernel_rfl) ?_
            refine F.mv (v := .int .i64 ((i : Nat) : Int)) (h := ?_)
            refine F.mv (v := .slice A46 ((ShortestWay_v0 m13 ps17 x24 x25).length) d47) (h := ?_)
            refine F.q (v := .int .i64 (((ShortestWay_v0 m13 ps17 x24 x25).length : Nat) : Int)) (hr := (r_len (A := A46) (n := (ShortestWay_v0 m13 ps17 x24 x25).length) (c := d47) rfl (ev_any (by kernel_rfl)) (by kernel_rfl))) (h := ?_)
            by_cases q345 : (((i : Nat) : Int) : Int) < ((((ShortestWay_v0 m13 ps17 x24 x25).length : Nat) : Int) : Int)
            · refine F.q (v := .bool true) (hr := (r_lss (m := ((i : Nat) : Int)) (n := (((ShortestWay_v0 m13 ps17 x24 x25).length : Nat) : Int)) rfl (ev_any (by kernel_rfl)) (ev_any (by kernel_rfl)) (decide_eq_true q345))) (h := ?_)
              refine F.endF [(0, .slice A n c), (2, .bool false), (3, .pointer (some ⟨b29, 0, none⟩)), (4, .int .i64 x24), (5, .int .i64 x25), (6, .slice A46 ((ShortestWay_v0 m13 ps17 x24 x25).length) d47), (7, .bool true), (8, .slice A61 ((ShortestWay_v0 m13 ps17 x24 x25).length) d62), (9, .bool true), (10, .int .i64 u), (11, .int .i64 ((i : Nat) : Int)), (28, .bool false), (57, .bool false), (58, .bool true), (63, .bool true)] (fun U346 => ?_)
              refine h44 _ _ ?_
              refine wp_cond_true (by kernel_rfl) ?_
              refine wp_skip ?_
              refine h43 _ _ ?_
              refine wp_seq_k (fun K45 h45 => ?_)
              refine wp_block ?_
              refine wp_seq_k (fun K46 h46 => ?_)
              refine W.region_quiet [(0, false)] (by kernel_rfl) ?_
              refine F.as (v := .int .i64 0) (h := ?_)
              refine F.endF [(0, .slice A n c), (2, .bool false), (3, .pointer (some ⟨b29, 0, none⟩)), (4, .int .i64 x24), (5, .int .i64 x25), (6, .slice A46 ((ShortestWay_v0 m13 ps17 x24 x25).length) d47), (7, .bool true), (8, .slice A61 ((ShortestWay_v0 m13 ps17 x24 x25).length) d62), (9, .bool true), (10, .int .i64 u), (11, .int .i64 ((i : Nat) : Int)), (12, .int .i64 0), (28, .bool false), (57, .bool false), (58, .bool true), (63, .bool true)] (fun U347 => ?_)
              refine h46 _ _ ?_
              refine wp_seq_k (fun K47 h47 => ?_)
              refine wp_seq_k (fun K48 h48 => ?_)
              refine W.region_quiet [(0, false)] (by kernel_rfl) ?_
              refine F.as (v := .int .i64 0) (h := ?_)
              refine F.endF [(0, .slice A n c), (2, .bool false), (3, .pointer (some ⟨b29, 0, none⟩)), (4, .int .i64 x24), (5, .int .i64 x25), (6, .slice A46 ((ShortestWay_v0 m13 ps17 x24 x25).length) d47), (7, .bool true), (8, .slice A61 ((ShortestWay_v0 m13 ps17 x24 x25).length) d62), (9, .bool true), (10, .int .i64 u), (11, .int .i64 ((i : Nat) : Int)), (12, .int .i64 0), (13, .int .i64 0), (28, .bool false), (57, .bool false), (58, .bool true), (63, .bool true)] (fun U348 => ?_)
              refine h48 _ _ ?_
              refine wp_block ?_
              obtain ⟨x349, hx350⟩ := get_of (zs := (ShortestWay_v0 m13 ps17 x24 x25)) (k := i) (by omega)
              refine loopK (fun am1 aa1 wl1 => ∃ (k : Nat) (s : Int) (U1 : Nat → Value), aa1 = ⟨(fr U1 [(0, .slice A n c), (2, .bool false), (3, .pointer (some ⟨b29, 0, none⟩)), (4, .int .i64 x24), (5, .int .i64 x25), (6, .slice A46 ((ShortestWay_v0 m13 ps17 x24 x25).length) d47), (7, .bool true), (8, .slice A61 ((ShortestWay_v0 m13 ps17 x24 x25).length) d62), (9, .bool true), (10, .int .i64 u), (11, .int .i64 ((i : Nat) : Int)), (12, .int .i64 s), (13, .int .i64 ((k : Nat) : Int)), (28, .bool false), (57, .bool false), (58, .bool true), (63, .bool true)] 211 0).toArray, []⟩ ∧ (am1 = n15 - k) ∧ (k ≤ n15) ∧ (s = nxtTo (ps17.take k) x349 u) ∧ (wl1.heap[b29]? = some (.cells #[.int .i64 m13, .slice A14 n15 c16] 31 (0, 0))) ∧ (Rd wl1 1 A46 ((ShortestWay_v0 m13 ps17 x24 x25).length) (intsV (ShortestWay_v0 m13 ps17 x24 x25))) ∧ (Rd wl1 1 A61 ((ShortestWay_v0 m13 ps17 x24 x25).length) (intsV (ShortestWay_v0 m13 ps17 x24 x25))) ∧ (Rd wl1 4 A14 n15 (pipesV ps17)) ∧ (Below w.heap.size w wl1)) (n15 - 0) ?_ ?_
              · exact ⟨0, 0, (fun iU9 => lk [(0, .slice A n c), (2, .bool false), (3, .pointer (some ⟨b29, 0, none⟩)), (4, .int .i64 x24), (5, .int .i64 x25), (6, .slice A46 ((ShortestWay_v0 m13 ps17 x24 x25).length) d47), (7, .bool true), (8, .slice A61 ((ShortestWay_v0 m13 ps17 x24 x25).length) d62), (9, .bool true), (10, .int .i64 u), (11, .int .i64 ((i : Nat) : Int)), (12, .int .i64 0), (13, .int .i64 0), (28, .bool false), (57, .bool false), (58, .bool true), (63, .bool true)] iU9 (U348 iU9)), (by kernel_rfl), rfl, (Nat.zero_le _), rfl, x40, kl0_0, kl0_1, kl0_2, c344⟩
              rintro am1 aa1 wl1 K49 h49 ⟨k, s, U1, rfl, rfl, hk, hs, x40, kl1_0, kl1_1, kl1_2, c351⟩
              refine wp_seq_k (fun K50 h50 => ?_)
              refine wp_seq_k (fun K51 h51 => ?_)
              refine W.region_quiet [(0, false), (1, false), (2, false), (3, false), (4, false)] (by kernel_rfl) ?_
              refine F.mv (v := .int .i64 ((k : Nat) : Int)) (h := ?_)
              refine F.q (v := .pointer (some ⟨b29, 1, none⟩)) (hr := (r_field (k := 1) rfl (ev_any (by kernel_rfl)) (by kernel_rfl))) (h := ?_)
              refine F.ld (v := .slice A14 n15 c16) (hc := (eqS (blk_cell (j := 1) x40 (by kernel_rfl)))) (h := ?_)
              refine F.q (v := .int .i64 ((n15 : Nat) : Int)) (hr := (r_len (A := A14) (n := n15) (c := c16) rfl (ev_any (by kernel_rfl)) (by kernel_rfl))) (h := ?_)
              by_cases q352 : (((k : Nat) : Int) : Int) < (((n15 : Nat) : Int) : Int)
              · refine F.q (v := .bool true) (hr := (r_lss (m := ((k : Nat) : Int)) (n := ((n15 : Nat) : Int)) rfl (ev_any (by kernel_rfl)) (ev_any (by kernel_rfl)) (decide_eq_true q352))) (h := ?_)
                refine F.endF [(0, .slice A n c), (2, .bool false), (3, .pointer (some ⟨b29, 0, none⟩)), (4, .int .i64 x24), (5, .int .i64 x25), (6, .slice A46 ((ShortestWay_v0 m13 ps17 x24 x25).length) d47), (7, .bool true), (8, .slice A61 ((ShortestWay_v0 m13 ps17 x24 x25).length) d62), (9, .bool true), (10, .int .i64 u), (11, .int .i64 ((i : Nat) : Int)), (12, .int .i64 s), (13, .int .i64 ((k : Nat) : Int)), (28, .bool false), (57, .bool false), (58, .bool true), (63, .bool true), (70, .bool true)] (fun U353 => ?_)
                refine h51 _ _ ?_
                refine wp_cond_true (by kernel_rfl) ?_
                refine wp_skip ?_
                refine h50 _ _ ?_
                refine wp_seq_k (fun K52 h52 => ?_)
                refine wp_block ?_
                refine wp_seq_k (fun K53 h53 => ?_)
                refine wp_seq_k (fun K54 h54 => ?_)
                refine W.region_sch (row := none) (Sch.of [(0, false), (1, false), (2, false), (3, false), (4, false), (5, false), (6, false), (7, false), (8, false), (9, false), (10, false), (11, false), (12, false), (13, false), (14, false), (15, false), (16, false), (17, false), (18, false), (19, false), (20, false)]) (by kernel_rfl) (by kernel_rfl) (fun _ d _ _ _ h => by cases d <;> exact h) (by kernel_rfl) (fun w354 e355 s356 => ?_)
                refine F.q (v := .pointer (some ⟨b29, 1, none⟩)) (hr := (r_field (k := 1) rfl (ev_any (by kernel_rfl)) (by kernel_rfl))) (h := ?_)
                refine F.ld (v := .slice A14 n15 c16) (hc := (sgS (blk_cell (j := 1) x40 (by kernel_rfl)) (Option.some_ne_none _))) (h := ?_)
                refine F.mv (v := .int .i64 ((k : Nat) : Int)) (h := ?_)
                obtain ⟨x357, hx358⟩ := get_of (zs := ps17) (k := k) (by have := hl22; omega)
                obtain ⟨b359, o360, hA361, hb362, hc363, hc364, hc365, hc366⟩ := Rd.elPipe kl1_2 hx358
                refine F.q (v := .pointer (some ⟨b359, o360 + k * 4, none⟩)) (hr := (r_idx (n := n15) (c := c16) (k := k) rfl (ev_any (by kernel_rfl)) hA361 (by kernel_rfl) (by kernel_rfl) (by have := hl22; omega))) (h := ?_)
                refine F.q (v := .pointer (some ⟨b359, o360 + k * 4, none⟩)) (hr := (r_field0 rfl (ev_any (by kernel_rfl)) (by kernel_rfl))) (h := ?_)
                refine F.ld (v := .int .i64 x357.id) (hc := (sgS hc363 (by simp))) (h := ?_)
                refine F.mv (v := .slice A46 ((ShortestWay_v0 m13 ps17 x24 x25).length) d47) (h := ?_)
                refine F.mv (v := .int .i64 ((i : Nat) : Int)) (h := ?_)
                obtain ⟨b367, o368, hA369, hb370, hc371⟩ := Rd.elInt kl1_0 hx350
                refine F.q (v := .pointer (some ⟨b367, o368 + i, none⟩)) (hr := (r_idx1 (n := (ShortestWay_v0 m13 ps17 x24 x25).length) (c := d47) (k := i) rfl (ev_any (by kernel_rfl)) hA369 (by kernel_rfl) (by kernel_rfl) (by have := hl51; omega))) (h := ?_)
                refine F.ld (v := .int .i64 x349) (hc := (sgS hc371 (by simp))) (h := ?_)
                by_cases q372 : (x357.id : Int) = (x349 : Int)
                · refine F.q (v := .bool true) (hr := (r_eql (m := x357.id) (n := x349) rfl (ev_any (by kernel_rfl)) (ev_any (by kernel_rfl)) (decide_eq_true q372))) (h := ?_)
                  refine F.mv (v := .bool true) (h := ?_)
                  refine F.q (v := .pointer (some ⟨b29, 1, none⟩)) (hr := (r_field (k := 1) rfl (ev_any (by kernel_rfl)) (by kernel_rfl))) (h := ?_)
                  refine F.ld (v := .slice A14 n15 c16) (hc := (sgS (blk_cell (j := 1) x40 (by kernel_rfl)) (Option.some_ne_none _))) (h := ?_)
                  refine F.mv (v := .int .i64 ((k : Nat) : Int)) (h := ?_)
                  obtain ⟨b373, o374, hA375, hb376, hc377, hc378, hc379, hc380⟩ := Rd.elPipe kl1_2 hx358
                  refine F.q (v := .pointer (some ⟨b373, o374 + k * 4, none⟩)) (hr := (r_idx (n := n15) (c := c16) (k := k) rfl (ev_any (by kernel_rfl)) hA375 (by kernel_rfl) (by kernel_rfl) (by have := hl22; omega))) (h := ?_)
                  refine F.q (v := .pointer (some ⟨b373, o374 + k * 4 + 1, none⟩)) (hr := (r_field (k := 1) rfl (ev_any (by kernel_rfl)) (by kernel_rfl))) (h := ?_)
                  refine F.ld (v := .int .i64 x357.fr) (hc := (sgS hc378 (by simp))) (h := ?_)
                  refine F.mv (v := .int .i64 u) (h := ?_)
                  by_cases q381 : (x357.fr : Int) = (u : Int)
                  · refine F.q (v := .bool true) (hr := (r_eql (m := x357.fr) (n := u) rfl (ev_any (by kernel_rfl)) (ev_any (by kernel_rfl)) (decide_eq_true q381))) (h := ?_)
                    refine F.q (v := .bool true) (hr := (r_pick (b := true) rfl (ev_any (by kernel_rfl)) (ev_any (by kernel_rfl)))) (h := ?_)
                    refine F.endF [(0, .slice A n c), (2, .bool false), (3, .pointer (some ⟨b29, 0, none⟩)), (4, .int .i64 x24), (5, .int .i64 x25), (6, .slice A46 ((ShortestWay_v0 m13 ps17 x24 x25).length) d47), (7, .bool true), (8, .slice A61 ((ShortestWay_v0 m13 ps17 x24 x25).length) d62), (9, .bool true), (10, .int .i64 u), (11, .int .i64 ((i : Nat) : Int)), (12, .int .i64 s), (13, .int .i64 ((k : Nat) : Int)), (28, .bool false), (57, .bool false), (58, .bool true), (63, .bool true), (70, .bool true), (93, .bool true)] (fun U382 => ?_)
                    have x40 := SG.blk s356 x40 (Option.some_ne_none _)
                    have c383 := (SG.belowR c351 s356 (fun kq e => by cases e))
                    have rd384 := Rd.kept kl1_2 (SG.below s356)
                    have rd385 := Rd.kept kl1_0 (SG.below s356)
                    have rd386 := Rd.kept kl1_1 (SG.below s356)
                    refine h54 _ _ ?_
                    as_aux_lemma =>
                      refine wp_cond_true (by kernel_rfl) ?_
                      refine W.region_quiet [(0, false), (1, false), (2, false), (3, false), (4, false), (5, false), (6, false)] (by kernel_rfl) ?_
                      refine F.q (v := .pointer (some ⟨b29, 1, none⟩)) (hr := (r_field (k := 1) rfl (ev_any (by kernel_rfl)) (by kernel_rfl))) (h := ?_)
                      refine F.ld (v := .slice A14 n15 c16) (hc := (eqS (blk_cell (j := 1) x40 (by kernel_rfl)))) (h := ?_)
                      refine F.mv (v := .int .i64 ((k : Nat) : Int)) (h := ?_)
                      obtain ⟨b387, o388, hA389, hb390, hc391, hc392, hc393, hc394⟩ := Rd.elPipe rd384 hx358
                      refine F.q (v := .pointer (some ⟨b387, o388 + k * 4, none⟩)) (hr := (r_idx (n := n15) (c := c16) (k := k) rfl (ev_any (by kernel_rfl)) hA389 (by kernel_rfl) (by kernel_rfl) (by have := hl22; omega))) (h := ?_)
                      refine F.q (v := .pointer (some ⟨b387, o388 + k * 4 + 2, none⟩)) (hr := (r_field (k := 2) rfl (ev_any (by kernel_rfl)) (by kernel_rfl))) (h := ?_)
                      refine F.ld (v := .int .i64 x357.to) (hc := (eqS hc393)) (h := ?_)
                      refine F.as (v := .int .i64 x357.to) (h := ?_)
                      refine F.endF [(0, .slice A n c), (2, .bool false), (3, .pointer (some ⟨b29, 0, none⟩)), (4, .int .i64 x24), (5, .int .i64 x25), (6, .slice A46 ((ShortestWay_v0 m13 ps17 x24 x25).length) d47), (7, .bool true), (8, .slice A61 ((ShortestWay_v0 m13 ps17 x24 x25).length) d62), (9, .bool true), (10, .int .i64 u), (11, .int .i64 ((i : Nat) : Int)), (12, .int .i64 x357.to), (13, .int .i64 ((k : Nat) : Int)), (28, .bool false), (57, .bool false), (58, .bool true), (63, .bool true), (70, .bool true), (93, .bool true)] (fun U395 => ?_)
                      refine h53 _ _ ?_
                      refine wp_seq_k (fun K55 h55 => ?_)
                      refine W.region_sch (row := none) (Sch.of [(0, false), (1, false), (2, false), (3, false), (4, false), (5, false), (6, false), (7, false), (8, false), (9, false), (10, false), (11, false), (12, false), (13, false), (14, false), (15, false), (16, false), (17, false), (18, false), (19, false), (20, false)]) (by kernel_rfl) (by kernel_rfl) (fun _ d _ _ _ h => by cases d <;> exact h) (by kernel_rfl) (fun w396 e397 s398 => ?_)
                      refine F.q (v := .pointer (some ⟨b29, 1, none⟩)) (hr := (r_field (k := 1) rfl (ev_any (by kernel_rfl)) (by kernel_rfl))) (h := ?_)
                      refine F.ld (v := .slice A14 n15 c16) (hc := (sgS (blk_cell (j := 1) x40 (by kernel_rfl)) (Option.some_ne_none _))) (h := ?_)
                      refine F.mv (v := .int .i64 ((k : Nat) : Int)) (h := ?_)
                      obtain ⟨b399, o400, hA401, hb402, hc403, hc404, hc405, hc406⟩ := Rd.elPipe rd384 hx358
                      refine F.q (v := .pointer (some ⟨b399, o400 + k * 4, none⟩)) (hr := (r_idx (n := n15) (c := c16) (k := k) rfl (ev_any (by kernel_rfl)) hA401 (by kernel_rfl) (by kernel_rfl) (by have := hl22; omega))) (h := ?_)
                      refine F.q (v := .pointer (some ⟨b399, o400 + k * 4, none⟩)) (hr := (r_field0 rfl (ev_any (by kernel_rfl)) (by kernel_rfl))) (h := ?_)
                      refine F.ld (v := .int .i64 x357.id) (hc := (sgS hc403 (by simp))) (h := ?_)
                      refine F.mv (v := .slice A46 ((ShortestWay_v0 m13 ps17 x24 x25).length) d47) (h := ?_)
                      refine F.mv (v := .int .i64 ((i : Nat) : Int)) (h := ?_)
                      obtain ⟨b407, o408, hA409, hb410, hc411⟩ := Rd.elInt rd385 hx350
                      refine F.q (v := .pointer (some ⟨b407, o408 + i, none⟩)) (hr := (r_idx1 (n := (ShortestWay_v0 m13 ps17 x24 x25).length) (c := d47) (k := i) rfl (ev_any (by kernel_rfl)) hA409 (by kernel_rfl) (by kernel_rfl) (by have := hl51; omega))) (h := ?_)
                      refine F.ld (v := .int .i64 x349) (hc := (sgS hc411 (by simp))) (h := ?_)
                      refine F.q (v := .bool true) (hr := (r_eql (m := x357.id) (n := x349) rfl (ev_any (by kernel_rfl)) (ev_any (by kernel_rfl)) (decide_eq_true q372))) (h := ?_)
                      refine F.mv (v := .bool true) (h := ?_)
                      refine F.q (v := .pointer (some ⟨b29, 1, none⟩)) (hr := (r_field (k := 1) rfl (ev_any (by kernel_rfl)) (by kernel_rfl))) (h := ?_)
                      refine F.ld (v := .slice A14 n15 c16) (hc := (sgS (blk_cell (j := 1) x40 (by kernel_rfl)) (Option.some_ne_none _))) (h := ?_)
                      refine F.mv (v := .int .i64 ((k : Nat) : Int)) (h := ?_)
                      obtain ⟨b412, o413, hA414, hb415, hc416, hc417, hc418, hc419⟩ := Rd.elPipe rd384 hx358
                      refine F.q (v := .pointer (some ⟨b412, o413 + k * 4, none⟩)) (hr := (r_idx (n := n15) (c := c16) (k := k) rfl (ev_any (by kernel_rfl)) hA414 (by kernel_rfl) (by kernel_rfl) (by have := hl22; omega))) (h := ?_)
                      refine F.q (v := .pointer (some ⟨b412, o413 + k * 4 + 2, none⟩)) (hr := (r_field (k := 2) rfl (ev_any (by kernel_rfl)) (by kernel_rfl))) (h := ?_)
                      refine F.ld (v := .int .i64 x357.to) (hc := (sgS hc418 (by simp))) (h := ?_)
                      refine F.mv (v := .int .i64 u) (h := ?_)
                      by_cases q420 : (x357.to : Int) = (u : Int)
                      · refine F.q (v := .bool true) (hr := (r_eql (m := x357.to) (n := u) rfl (ev_any (by kernel_rfl)) (ev_any (by kernel_rfl)) (decide_eq_true q420))) (h := ?_)
                        refine F.q (v := .bool true) (hr := (r_pick (b := true) rfl (ev_any (by kernel_rfl)) (ev_any (by kernel_rfl)))) (h := ?_)
                        refine F.endF [(0, .slice A n c), (2, .bool false), (3, .pointer (some ⟨b29, 0, none⟩)), (4, .int .i64 x24), (5, .int .i64 x25), (6, .slice A46 ((ShortestWay_v0 m13 ps17 x24 x25).length) d47), (7, .bool true), (8, .slice A61 ((ShortestWay_v0 m13 ps17 x24 x25).length) d62), (9, .bool true), (10, .int .i64 u), (11, .int .i64 ((i : Nat) : Int)), (12, .int .i64 x357.to), (13, .int .i64 ((k : Nat) : Int)), (28, .bool false), (57, .bool false), (58, .bool true), (63, .bool true), (70, .bool true), (93, .bool true), (120, .bool true)] (fun U421 => ?_)
                        have x40 := SG.blk s398 x40 (Option.some_ne_none _)
                        have c422 := (SG.belowR c383 s398 (fun kq e => by cases e))
                        have rd423 := Rd.kept rd384 (SG.below s398)
                        have rd424 := Rd.kept rd385 (SG.below s398)
                        have rd425 := Rd.kept rd386 (SG.below s398)
                        refine h55 _ _ ?_
                        refine wp_cond_true (by kernel_rfl) ?_
                        refine W.region_quiet [(0, false), (1, false), (2, false), (3, false), (4, false), (5, false), (6, false)] (by kernel_rfl) ?_
                        refine F.q (v := .pointer (some ⟨b29, 1, none⟩)) (hr := (r_field (k := 1) rfl (ev_any (by kernel_rfl)) (by kernel_rfl))) (h := ?_)
                        refine F.ld (v := .slice A14 n15 c16) (hc := (eqS (blk_cell (j := 1) x40 (by kernel_rfl)))) (h := ?_)
                        refine F.mv (v := .int .i64 ((k : Nat) : Int)) (h := ?_)
                        obtain ⟨b426, o427, hA428, hb429, hc430, hc431, hc432, hc433⟩ := Rd.elPipe rd423 hx358
                        refine F.q (v := .pointer (some ⟨b426, o427 + k * 4, none⟩)) (hr := (r_idx (n := n15) (c := c16) (k := k) rfl (ev_any (by kernel_rfl)) hA428 (by kernel_rfl) (by kernel_rfl) (by have := hl22; omega))) (h := ?_)
                        refine F.q (v := .pointer (some ⟨b426, o427 + k * 4 + 1, none⟩)) (hr := (r_field (k := 1) rfl (ev_any (by kernel_rfl)) (by kernel_rfl))) (h := ?_)
                        refine F.ld (v := .int .i64 x357.fr) (hc := (eqS hc431)) (h := ?_)
                        refine F.as (v := .int .i64 x357.fr) (h := ?_)
                        refine F.endF [(0, .slice A n c), (2, .bool false), (3, .pointer (some ⟨b29, 0, none⟩)), (4, .int .i64 x24), (5, .int .i64 x25), (6, .slice A46 ((ShortestWay_v0 m13 ps17 x24 x25).length) d47), (7, .bool true), (8, .slice A61 ((ShortestWay_v0 m13 ps17 x24 x25).length) d62), (9, .bool true), (10, .int .i64 u), (11, .int .i64 ((i : Nat) : Int)), (12, .int .i64 x357.fr), (13, .int .i64 ((k : Nat) : Int)), (28, .bool false), (57, .bool false), (58, .bool true), (63, .bool true), (70, .bool true), (93, .bool true), (120, .bool true)] (fun U434 => ?_)
                        refine h52 _ _ ?_
                        refine W.region_quiet [(0, false), (1, false), (2, false)] (by kernel_rfl) ?_
                        refine F.mv (v := .int .i64 ((k : Nat) : Int)) (h := ?_)
                        refine F.q (v := .int .i64 ((k + 1 : Nat) : Int)) (hr := (r_add (m := ((k : Nat) : Int)) (n := 1) (z := ((k + 1 : Nat) : Int)) rfl (ev_any (by kernel_rfl)) (ev_any (by kernel_rfl)) (by omega) (by omega))) (h := ?_)
                        refine F.as (v := .int .i64 ((k + 1 : Nat) : Int)) (h := ?_)
                        refine F.endF [(0, .slice A n c), (2, .bool false), (3, .pointer (some ⟨b29, 0, none⟩)), (4, .int .i64 x24), (5, .int .i64 x25), (6, .slice A46 ((ShortestWay_v0 m13 ps17 x24 x25).length) d47), (7, .bool true), (8, .slice A61 ((ShortestWay_v0 m13 ps17 x24 x25).length) d62), (9, .bool true), (10, .int .i64 u), (11, .int .i64 ((i : Nat) : Int)), (12, .int .i64 x357.fr), (13, .int .i64 ((k + 1 : Nat) : Int)), (28, .bool false), (57, .bool false), (58, .bool true), (63, .bool true), (70, .bool true), (93, .bool true), (120, .bool true)] (fun U435 => ?_)
                        exact h49 _ _ _ (by omega : (n15 - (k + 1)) < _) ⟨k + 1, x357.fr, (fun iU9 => lk [(0, .slice A n c), (2, .bool false), (3, .pointer (some ⟨b29, 0, none⟩)), (4, .int .i64 x24), (5, .int .i64 x25), (6, .slice A46 ((ShortestWay_v0 m13 ps17 x24 x25).length) d47), (7, .bool true), (8, .slice A61 ((ShortestWay_v0 m13 ps17 x24 x25).length) d62), (9, .bool true), (10, .int .i64 u), (11, .int .i64 ((i : Nat) : Int)), (12, .int .i64 x357.fr), (13, .int .i64 ((k + 1 : Nat) : Int)), (28, .bool false), (57, .bool false), (58, .bool true), (63, .bool true), (70, .bool true), (93, .bool true), (120, .bool true)] iU9 (U435 iU9)), (by kernel_rfl), rfl, (by omega), (by rw [nxt_take hx358, ← hs]; unfold nxtP; (repeat' split) <;> first | rfl | omega), x40, rd424, rd425, rd423, c422⟩
                      · refine F.q (v := .bool false) (hr := (r_eql (m := x357.to) (n := u) rfl (ev_any (by kernel_rfl)) (ev_any (by kernel_rfl)) (decide_eq_false q420))) (h := ?_)
                        refine F.q (v := .bool false) (hr := (r_pick (b := true) rfl (ev_any (by kernel_rfl)) (ev_any (by kernel_rfl)))) (h := ?_)
                        refine F.endF [(0, .slice A n c), (2, .bool false), (3, .pointer (some ⟨b29, 0, none⟩)), (4, .int .i64 x24), (5, .int .i64 x25), (6, .slice A46 ((ShortestWay_v0 m13 ps17 x24 x25).length) d47), (7, .bool true), (8, .slice A61 ((ShortestWay_v0 m13 ps17 x24 x25).length) d62), (9, .bool true), (10, .int .i64 u), (11, .int .i64 ((i : Nat) : Int)), (12, .int .i64 x357.to), (13, .int .i64 ((k : Nat) : Int)), (28, .bool false), (57, .bool false), (58, .bool true), (63, .bool true), (70, .bool true), (93, .bool true), (120, .bool false)] (fun U436 => ?_)
                        have x40 := SG.blk s398 x40 (Option.some_ne_none _)
                        have c437 := (SG.belowR c383 s398 (fun kq e => by cases e))
                        have rd438 := Rd.kept rd384 (SG.below s398)
                        have rd439 := Rd.kept rd385 (SG.below s398)
                        have rd440 := Rd.kept rd386 (SG.below s398)
                        refine h55 _ _ ?_
                        as_aux_lemma =>
                          refine wp_cond_false (by kernel_rfl) ?_
                          refine wp_skip ?_
                          refine h52 _ _ ?_
                          refine W.region_quiet [(0, false), (1, false), (2, false)] (by kernel_rfl) ?_
                          refine F.mv (v := .int .i64 ((k : Nat) : Int)) (h := ?_)
                          refine F.q (v := .int .i64 ((k + 1 : Nat) : Int)) (hr := (r_add (m := ((k : Nat) : Int)) (n := 1) (z := ((k + 1 : Nat) : Int)) rfl (ev_any (by kernel_rfl)) (ev_any (by kernel_rfl)) (by omega) (by omega))) (h := ?_)
                          refine F.as (v := .int .i64 ((k + 1 : Nat) : Int)) (h := ?_)
                          refine F.endF [(0, .slice A n c), (2, .bool false), (3, .pointer (some ⟨b29, 0, none⟩)), (4, .int .i64 x24), (5, .int .i64 x25), (6, .slice A46 ((ShortestWay_v0 m13 ps17 x24 x25).length) d47), (7, .bool true), (8, .slice A61 ((ShortestWay_v0 m13 ps17 x24 x25).length) d62), (9, .bool true), (10, .int .i64 u), (11, .int .i64 ((i : Nat) : Int)), (12, .int .i64 x357.to), (13, .int .i64 ((k + 1 : Nat) : Int)), (28, .bool false), (57, .bool false), (58, .bool true), (63, .bool true), (70, .bool true), (93, .bool true), (120, .bool false)] (fun U441 => ?_)
                          exact h49 _ _ _ (by omega : (n15 - (k + 1)) < _) ⟨k + 1, x357.to, (fun iU9 => lk [(0, .slice A n c), (2, .bool false), (3, .pointer (some ⟨b29, 0, none⟩)), (4, .int .i64 x24), (5, .int .i64 x25), (6, .slice A46 ((ShortestWay_v0 m13 ps17 x24 x25).length) d47), (7, .bool true), (8, .slice A61 ((ShortestWay_v0 m13 ps17 x24 x25).length) d62), (9, .bool true), (10, .int .i64 u), (11, .int .i64 ((i : Nat) : Int)), (12, .int .i64 x357.to), (13, .int .i64 ((k + 1 : Nat) : Int)), (28, .bool false), (57, .bool false), (58, .bool true), (63, .bool true), (70, .bool true), (93, .bool true), (120, .bool false)] iU9 (U441 iU9)), (by kernel_rfl), rfl, (by omega), (by rw [nxt_take hx358, ← hs]; unfold nxtP; (repeat' split) <;> first | rfl | omega), x40, rd439, rd440, rd438, c437⟩
                  · refine F.q (v := .bool false) (hr := (r_eql (m := x357.fr) (n := u) rfl (ev_any (by kernel_rfl)) (ev_any (by kernel_rfl)) (decide_eq_false q381))) (h := ?_)
                    refine F.q (v := .bool false) (hr := (r_pick (b := true) rfl (ev_any (by kernel_rfl)) (ev_any (by kernel_rfl)))) (h := ?_)
                    refine F.endF [(0, .slice A n c), (2, .bool false), (3, .pointer (some ⟨b29, 0, none⟩)), (4, .int .i64 x24), (5, .int .i64 x25), (6, .slice A46 ((ShortestWay_v0 m13 ps17 x24 x25).length) d47), (7, .bool true), (8, .slice A61 ((ShortestWay_v0 m13 ps17 x24 x25).length) d62), (9, .bool true), (10, .int .i64 u), (11, .int .i64 ((i : Nat) : Int)), (12, .int .i64 s), (13, .int .i64 ((k : Nat) : Int)), (28, .bool false), (57, .bool false), (58, .bool true), (63, .bool true), (70, .bool true), (93, .bool false)] (fun U442 => ?_)
                    have x40 := SG.blk s356 x40 (Option.some_ne_none _)
                    have c443 := (SG.belowR c351 s356 (fun kq e => by cases e))
                    have rd444 := Rd.kept kl1_2 (SG.below s356)
                    have rd445 := Rd.kept kl1_0 (SG.below s356)
                    have rd446 := Rd.kept kl1_1 (SG.below s356)
                    refine h54 _ _ ?_
                    refine wp_cond_false (by kernel_rfl) ?_
                    refine wp_skip ?_
                    refine h53 _ _ ?_
                    refine wp_seq_k (fun K56 h56 => ?_)
                    refine W.region_sch (row := none) (Sch.of [(0, false), (1, false), (2, false), (3, false), (4, false), (5, false), (6, false), (7, false), (8, false), (9, false), (10, false), (11, false), (12, false), (13, false), (14, false), (15, false), (16, false), (17, false), (18, false), (19, false), (20, false)]) (by kernel_rfl) (by kernel_rfl) (fun _ d _ _ _ h => by cases d <;> exact h) (by kernel_rfl) (fun w447 e448 s449 => ?_)
                    refine F.q (v := .pointer (some ⟨b29, 1, none⟩)) (hr := (r_field (k := 1) rfl (ev_any (by kernel_rfl)) (by kernel_rfl))) (h := ?_)
                    refine F.ld (v := .slice A14 n15 c16) (hc := (sgS (blk_cell (j := 1) x40 (by kernel_rfl)) (Option.some_ne_none _))) (h := ?_)
                    refine F.mv (v := .int .i64 ((k : Nat) : Int)) (h := ?_)
                    obtain ⟨b450, o451, hA452, hb453, hc454, hc455, hc456, hc457⟩ := Rd.elPipe rd444 hx358
                    refine F.q (v := .pointer (some ⟨b450, o451 + k * 4, none⟩)) (hr := (r_idx (n := n15) (c := c16) (k := k) rfl (ev_any (by kernel_rfl)) hA452 (by kernel_rfl) (by kernel_rfl) (by have := hl22; omega))) (h := ?_)
                    refine F.q (v := .pointer (some ⟨b450, o451 + k * 4, none⟩)) (hr := (r_field0 rfl (ev_any (by kernel_rfl)) (by kernel_rfl))) (h := ?_)
                    refine F.ld (v := .int .i64 x357.id) (hc := (sgS hc454 (by simp))) (h := ?_)
                    refine F.mv (v := .slice A46 ((ShortestWay_v0 m13 ps17 x24 x25).length) d47) (h := ?_)
                    refine F.mv (v := .int .i64 ((i : Nat) : Int)) (h := ?_)
                    obtain ⟨b458, o459, hA460, hb461, hc462⟩ := Rd.elInt rd445 hx350
                    refine F.q (v := .pointer (some ⟨b458, o459 + i, none⟩)) (hr := (r_idx1 (n := (ShortestWay_v0 m13 ps17 x24 x25).length) (c := d47) (k := i) rfl (ev_any (by kernel_rfl)) hA460 (by kernel_rfl) (by kernel_rfl) (by have := hl51; omega))) (h := ?_)
                    refine F.ld (v := .int .i64 x349) (hc := (sgS hc462 (by simp))) (h := ?_)
                    refine F.q (v := .bool true) (hr := (r_eql (m := x357.id) (n := x349) rfl (ev_any (by kernel_rfl)) (ev_any (by kernel_rfl)) (decide_eq_true q372))) (h := ?_)
                    refine F.mv (v := .bool true) (h := ?_)
                    refine F.q (v := .pointer (some ⟨b29, 1, none⟩)) (hr := (r_field (k := 1) rfl (ev_any (by kernel_rfl)) (by kernel_rfl))) (h := ?_)
                    refine F.ld (v := .slice A14 n15 c16) (hc := (sgS (blk_cell (j := 1) x40 (by kernel_rfl)) (Option.some_ne_none _))) (h := ?_)
                    refine F.mv (v := .int .i64 ((k : Nat) : Int)) (h := ?_)
                    obtain ⟨b463, o464, hA465, hb466, hc467, hc468, hc469, hc470⟩ := Rd.elPipe rd444 hx358
                    refine F.q (v := .pointer (some ⟨b463, o464 + k * 4, none⟩)) (hr := (r_idx (n := n15) (c := c16) (k := k) rfl (ev_any (by kernel_rfl)) hA465 (by kernel_rfl) (by kernel_rfl) (by have := hl22; omega))) (h := ?_)
                    refine F.q (v := .pointer (some ⟨b463, o464 + k * 4 + 2, none⟩)) (hr := (r_field (k := 2) rfl (ev_any (by kernel_rfl)) (by kernel_rfl))) (h := ?_)
                    refine F.ld (v := .int .i64 x357.to) (hc := (sgS hc469 (by simp))) (h := ?_)
                    refine F.mv (v := .int .i64 u) (h := ?_)
                    by_cases q471 : (x357.to : Int) = (u : Int)
                    · refine F.q (v := .bool true) (hr := (r_eql (m := x357.to) (n := u) rfl (ev_any (by kernel_rfl)) (ev_any (by kernel_rfl)) (decide_eq_true q471))) (h := ?_)
                      refine F.q (v := .bool true) (hr := (r_pick (b := true) rfl (ev_any (by kernel_rfl)) (ev_any (by kernel_rfl)))) (h := ?_)
                      refine F.endF [(0, .slice A n c), (2, .bool false), (3, .pointer (some ⟨b29, 0, none⟩)), (4, .int .i64 x24), (5, .int .i64 x25), (6, .slice A46 ((ShortestWay_v0 m13 ps17 x24 x25).length) d47), (7, .bool true), (8, .slice A61 ((ShortestWay_v0 m13 ps17 x24 x25).length) d62), (9, .bool true), (10, .int .i64 u), (11, .int .i64 ((i : Nat) : Int)), (12, .int .i64 s), (13, .int .i64 ((k : Nat) : Int)), (28, .bool false), (57, .bool false), (58, .bool true), (63, .bool true), (70, .bool true), (93, .bool false), (120, .bool true)] (fun U472 => ?_)
                      have x40 := SG.blk s449 x40 (Option.some_ne_none _)
                      have c473 := (SG.belowR c443 s449 (fun kq e => by cases e))
                      have rd474 := Rd.kept rd444 (SG.below s449)
                      have rd475 := Rd.kept rd445 (SG.below s449)
                      have rd476 := Rd.kept rd446 (SG.below s449)
                      refine h56 _ _ ?_
                      refine wp_cond_true (by kernel_rfl) ?_
                      refine W.region_quiet [(0, false), (1, false), (2, false), (3, false), (4, false), (5, false), (6, false)] (by kernel_rfl) ?_
                      refine F.q (v := .pointer (some ⟨b29, 1, none⟩)) (hr := (r_field (k := 1) rfl (ev_any (by kernel_rfl)) (by kernel_rfl))) (h := ?_)
                      refine F.ld (v := .slice A14 n15 c16) (hc := (eqS (blk_cell (j := 1) x40 (by kernel_rfl)))) (h := ?_)
                      refine F.mv (v := .int .i64 ((k : Nat) : Int)) (h := ?_)
                      obtain ⟨b477, o478, hA479, hb480, hc481, hc482, hc483, hc484⟩ := Rd.elPipe rd474 hx358
                      refine F.q (v := .pointer (some ⟨b477, o478 + k * 4, none⟩)) (hr := (r_idx (n := n15) (c := c16) (k := k) rfl (ev_any (by kernel_rfl)) hA479 (by kernel_rfl) (by kernel_rfl) (by have := hl22; omega))) (h := ?_)
                      refine F.q (v := .pointer (some ⟨b477, o478 + k * 4 + 1, none⟩)) (hr := (r_field (k := 1) rfl (ev_any (by kernel_rfl)) (by kernel_rfl))) (h := ?_)
                      refine F.ld (v := .int .i64 x357.fr) (hc := (eqS hc482)) (h := ?_)
                      refine F.as (v := .int .i64 x357.fr) (h := ?_)
                      refine F.endF [(0, .slice A n c), (2, .bool false), (3, .pointer (some ⟨b29, 0, none⟩)), (4, .int .i64 x24), (5, .int .i64 x25), (6, .slice A46 ((ShortestWay_v0 m13 ps17 x24 x25).length) d47), (7, .bool true), (8, .slice A61 ((ShortestWay_v0 m13 ps17 x24 x25).length) d62), (9, .bool true), (10, .int .i64 u), (11, .int .i64 ((i : Nat) : Int)), (12, .int .i64 x357.fr), (13, .int .i64 ((k : Nat) : Int)), (28, .bool false), (57, .bool false), (58, .bool true), (63, .bool true), (70, .bool true), (93, .bool false), (120, .bool true)] (fun U485 => ?_)
                      refine h52 _ _ ?_
                      as_aux_lemma =>
                        refine W.region_quiet [(0, false), (1, false), (2, false)] (by kernel_rfl) ?_
                        refine F.mv (v := .int .i64 ((k : Nat) : Int)) (h := ?_)
                        refine F.q (v := .int .i64 ((k + 1 : Nat) : Int)) (hr := (r_add (m := ((k : Nat) : Int)) (n := 1) (z := ((k + 1 : Nat) : Int)) rfl (ev_any (by kernel_rfl)) (ev_any (by kernel_rfl)) (by omega) (by omega))) (h := ?_)
                        refine F.as (v := .int .i64 ((k + 1 : Nat) : Int)) (h := ?_)
                        refine F.endF [(0, .slice A n c), (2, .bool false), (3, .pointer (some ⟨b29, 0, none⟩)), (4, .int .i64 x24), (5, .int .i64 x25), (6, .slice A46 ((ShortestWay_v0 m13 ps17 x24 x25).length) d47), (7, .bool true), (8, .slice A61 ((ShortestWay_v0 m13 ps17 x24 x25).length) d62), (9, .bool true), (10, .int .i64 u), (11, .int .i64 ((i : Nat) : Int)), (12, .int .i64 x357.fr), (13, .int .i64 ((k + 1 : Nat) : Int)), (28, .bool false), (57, .bool false), (58, .bool true), (63, .bool true), (70, .bool true), (93, .bool false), (120, .bool true)] (fun U486 => ?_)
                        exact h49 _ _ _ (by omega : (n15 - (k + 1)) < _) ⟨k + 1, x357.fr, (fun iU9 => lk [(0, .slice A n c), (2, .bool false), (3, .pointer (some ⟨b29, 0, none⟩)), (4, .int .i64 x24), (5, .int .i64 x25), (6, .slice A46 ((ShortestWay_v0 m13 ps17 x24 x25).length) d47), (7, .bool true), (8, .slice A61 ((ShortestWay_v0 m13 ps17 x24 x25).length) d62), (9, .bool true), (10, .int .i64 u), (11, .int .i64 ((i : Nat) : Int)), (12, .int .i64 x357.fr), (13, .int .i64 ((k + 1 : Nat) : Int)), (28, .bool false), (57, .bool false), (58, .bool true), (63, .bool true), (70, .bool true), (93, .bool false), (120, .bool true)] iU9 (U486 iU9)), (by kernel_rfl), rfl, (by omega), (by rw [nxt_take hx358, ← hs]; unfold nxtP; (repeat' split) <;> first | rfl | omega), x40, rd475, rd476, rd474, c473⟩
                    · refine F.q (v := .bool false) (hr := (r_eql (m := x357.to) (n := u) rfl (ev_any (by kernel_rfl)) (ev_any (by kernel_rfl)) (decide_eq_false q471))) (h := ?_)
                      refine F.q (v := .bool false) (hr := (r_pick (b := true) rfl (ev_any (by kernel_rfl)) (ev_any (by kernel_rfl)))) (h := ?_)
                      refine F.endF [(0, .slice A n c), (2, .bool false), (3, .pointer (some ⟨b29, 0, none⟩)), (4, .int .i64 x24), (5, .int .i64 x25), (6, .slice A46 ((ShortestWay_v0 m13 ps17 x24 x25).length) d47), (7, .bool true), (8, .slice A61 ((ShortestWay_v0 m13 ps17 x24 x25).length) d62), (9, .bool true), (10, .int .i64 u), (11, .int .i64 ((i : Nat) : Int)), (12, .int .i64 s), (13, .int .i64 ((k : Nat) : Int)), (28, .bool false), (57, .bool false), (58, .bool true), (63, .bool true), (70, .bool true), (93, .bool false), (120, .bool false)] (fun U487 => ?_)
                      have x40 := SG.blk s449 x40 (Option.some_ne_none _)
                      have c488 := (SG.belowR c443 s449 (fun kq e => by cases e))
                      have rd489 := Rd.kept rd444 (SG.below s449)
                      have rd490 := Rd.kept rd445 (SG.below s449)
                      have rd491 := Rd.kept rd446 (SG.below s449)
                      refine h56 _ _ ?_
                      refine wp_cond_false (by kernel_rfl) ?_
                      refine wp_skip ?_
                      refine h52 _ _ ?_
                      refine W.region_quiet [(0, false), (1, false), (2, false)] (by kernel_rfl) ?_
                      refine F.mv (v := .int .i64 ((k : Nat) : Int)) (h := ?_)
                      refine F.q (v := .int .i64 ((k + 1 : Nat) : Int)) (hr := (r_add (m := ((k : Nat) : Int)) (n := 1) (z := ((k + 1 : Nat) : Int)) rfl (ev_any (by kernel_rfl)) (ev_any (by kernel_rfl)) (by omega) (by omega))) (h := ?_)
                      refine F.as (v := .int .i64 ((k + 1 : Nat) : Int)) (h := ?_)
                      refine F.endF [(0, .slice A n c), (2, .bool false), (3, .pointer (some ⟨b29, 0, none⟩)), (4, .int .i64 x24), (5, .int .i64 x25), (6, .slice A46 ((ShortestWay_v0 m13 ps17 x24 x25).length) d47), (7, .bool true), (8, .slice A61 ((ShortestWay_v0 m13 ps17 x24 x25).length) d62), (9, .bool true), (10, .int .i64 u), (11, .int .i64 ((i : Nat) : Int)), (12, .int .i64 s), (13, .int .i64 ((k + 1 : Nat) : Int)), (28, .bool false), (57, .bool false), (58, .bool true), (63, .bool true), (70, .bool true), (93, .bool false), (120, .bool false)] (fun U492 => ?_)
                      exact h49 _ _ _ (by omega : (n15 - (k + 1)) < _) ⟨k + 1, s, (fun iU9 => lk [(0, .slice A n c), (2, .bool false), (3, .pointer (some ⟨b29, 0, none⟩)), (4, .int .i64 x24), (5, .int .i64 x25), (6, .slice A46 ((ShortestWay_v0 m13 ps17 x24 x25).length) d47), (7, .bool true), (8, .slice A61 ((ShortestWay_v0 m13 ps17 x24 x25).length) d62), (9, .bool true), (10, .int .i64 u), (11, .int .i64 ((i : Nat) : Int)), (12, .int .i64 s), (13, .int .i64 ((k + 1 : Nat) : Int)), (28, .bool false), (57, .bool false), (58, .bool true), (63, .bool true), (70, .bool true), (93, .bool false), (120, .bool false)] iU9 (U492 iU9)), (by kernel_rfl), rfl, (by omega), (by rw [nxt_take hx358, ← hs]; unfold nxtP; (repeat' split) <;> first | rfl | omega), x40, rd490, rd491, rd489, c488⟩
                · refine F.q (v := .bool false) (hr := (r_eql (m := x357.id) (n := x349) rfl (ev_any (by kernel_rfl)) (ev_any (by kernel_rfl)) (decide_eq_false q372))) (h := ?_)
                  refine F.mv (v := .bool false) (h := ?_)
                  refine F.sp s356 (h := ?_)
                  refine F.sp s356 (h := ?_)
                  refine F.sp s356 (h := ?_)
                  refine F.sp s356 (h := ?_)
                  refine F.sp s356 (h := ?_)
                  refine F.sp s356 (h := ?_)
                  refine F.sp s356 (h := ?_)
                  refine F.sp s356 (h := ?_)
                  refine F.q (v := .bool false) (hr := (r_pick (b := false) rfl (ev_any (by kernel_rfl)) (ev_any (by kernel_rfl)))) (h := ?_)
                  refine F.endF [(0, .slice A n c), (2, .bool false), (3, .pointer (some ⟨b29, 0, none⟩)), (4, .int .i64 x24), (5, .int .i64 x25), (6, .slice A46 ((ShortestWay_v0 m13 ps17 x24 x25).length) d47), (7, .bool true), (8, .slice A61 ((ShortestWay_v0 m13 ps17 x24 x25).length) d62), (9, .bool true), (10, .int .i64 u), (11, .int .i64 ((i : Nat) : Int)), (12, .int .i64 s), (13, .int .i64 ((k : Nat) : Int)), (28, .bool false), (57, .bool false), (58, .bool true), (63, .bool true), (70, .bool true), (93, .bool false)] (fun U493 => ?_)
                  have x40 := SG.blk s356 x40 (Option.some_ne_none _)
                  have c494 := (SG.belowR c351 s356 (fun kq e => by cases e))
                  have rd495 := Rd.kept kl1_2 (SG.below s356)
                  have rd496 := Rd.kept kl1_0 (SG.below s356)
                  have rd497 := Rd.kept kl1_1 (SG.below s356)
                  refine h54 _ _ ?_
                  refine wp_cond_false (by kernel_rfl) ?_
                  refine wp_skip ?_
                  refine h53 _ _ ?_
                  refine wp_seq_k (fun K57 h57 => ?_)
                  refine W.region_sch (row := none) (Sch.of [(0, false), (1, false), (2, false), (3, false), (4, false), (5, false), (6, false), (7, false), (8, false), (9, false), (10, false), (11, false), (12, false), (13, false), (14, false), (15, false), (16, false), (17, false), (18, false), (19, false), (20, false)]) (by kernel_rfl) (by kernel_rfl) (fun _ d _ _ _ h => by cases d <;> exact h) (by kernel_rfl) (fun w498 e499 s500 => ?_)
                  refine F.q (v := .pointer (some ⟨b29, 1, none⟩)) (hr := (r_field (k := 1) rfl (ev_any (by kernel_rfl)) (by kernel_rfl))) (h := ?_)
                  refine F.ld (v := .slice A14 n15 c16) (hc := (sgS (blk_cell (j := 1) x40 (by kernel_rfl)) (Option.some_ne_none _))) (h := ?_)
                  refine F.mv (v := .int .i64 ((k : Nat) : Int)) (h := ?_)
                  obtain ⟨b501, o502, hA503, hb504, hc505, hc506, hc507, hc508⟩ := Rd.elPipe rd495 hx358
                  refine F.q (v := .pointer (some ⟨b501, o502 + k * 4, none⟩)) (hr := (r_idx (n := n15) (c := c16) (k := k) rfl (ev_any (by kernel_rfl)) hA503 (by kernel_rfl) (by kernel_rfl) (by have := hl22; omega))) (h := ?_)
                  refine F.q (v := .pointer (some ⟨b501, o502 + k * 4, none⟩)) (hr := (r_field0 rfl (ev_any (by kernel_rfl)) (by kernel_rfl))) (h := ?_)
                  refine F.ld (v := .int .i64 x357.id) (hc := (sgS hc505 (by simp))) (h := ?_)
                  refine F.mv (v := .slice A46 ((ShortestWay_v0 m13 ps17 x24 x25).length) d47) (h := ?_)
                  refine F.mv (v := .int .i64 ((i : Nat) : Int)) (h := ?_)
                  obtain ⟨b509, o510, hA511, hb512, hc513⟩ := Rd.elInt rd496 hx350
                  refine F.q (v := .pointer (some ⟨b509, o510 + i, none⟩)) (hr := (r_idx1 (n := (ShortestWay_v0 m13 ps17 x24 x25).length) (c := d47) (k := i) rfl (ev_any (by kernel_rfl)) hA511 (by kernel_rfl) (by kernel_rfl) (by have := hl51; omega))) (h := ?_)
                  refine F.ld (v := .int .i64 x349) (hc := (sgS hc513 (by simp))) (h := ?_)
                  refine F.q (v := .bool false) (hr := (r_eql (m := x357.id) (n := x349) rfl (ev_any (by kernel_rfl)) (ev_any (by kernel_rfl)) (decide_eq_false q372))) (h := ?_)
                  refine F.mv (v := .bool false) (h := ?_)
                  refine F.sp s500 (h := ?_)
                  refine F.sp s500 (h := ?_)
                  refine F.sp s500 (h := ?_)
                  refine F.sp s500 (h := ?_)
                  refine F.sp s500 (h := ?_)
                  refine F.sp s500 (h := ?_)
                  refine F.sp s500 (h := ?_)
                  refine F.sp s500 (h := ?_)
                  refine F.q (v := .bool false) (hr := (r_pick (b := false) rfl (ev_any (by kernel_rfl)) (ev_any (by kernel_rfl)))) (h := ?_)
                  refine F.endF [(0, .slice A n c), (2, .bool false), (3, .pointer (some ⟨b29, 0, none⟩)), (4, .int .i64 x24), (5, .int .i64 x25), (6, .slice A46 ((ShortestWay_v0 m13 ps17 x24 x25).length) d47), (7, .bool true), (8, .slice A61 ((ShortestWay_v0 m13 ps17 x24 x25).length) d62), (9, .bool true), (10, .int .i64 u), (11, .int .i64 ((i : Nat) : Int)), (12, .int .i64 s), (13, .int .i64 ((k : Nat) : Int)), (28, .bool false), (57, .bool false), (58, .bool true), (63, .bool true), (70, .bool true), (93, .bool false), (120, .bool false)] (fun U514 => ?_)
                  have x40 := SG.blk s500 x40 (Option.some_ne_none _)
                  have c515 := (SG.belowR c494 s500 (fun kq e => by cases e))
                  have rd516 := Rd.kept rd495 (SG.below s500)
                  have rd517 := Rd.kept rd496 (SG.below s500)
                  have rd518 := Rd.kept rd497 (SG.below s500)
                  refine h57 _ _ ?_
                  as_aux_lemma =>
                    refine wp_cond_false (by kernel_rfl) ?_
                    refine wp_skip ?_
                    refine h52 _ _ ?_
                    refine W.region_quiet [(0, false), (1, false), (2, false)] (by kernel_rfl) ?_
                    refine F.mv (v := .int .i64 ((k : Nat) : Int)) (h := ?_)
                    refine F.q (v := .int .i64 ((k + 1 : Nat) : Int)) (hr := (r_add (m := ((k : Nat) : Int)) (n := 1) (z := ((k + 1 : Nat) : Int)) rfl (ev_any (by kernel_rfl)) (ev_any (by kernel_rfl)) (by omega) (by omega))) (h := ?_)
                    refine F.as (v := .int .i64 ((k + 1 : Nat) : Int)) (h := ?_)
                    refine F.endF [(0, .slice A n c), (2, .bool false), (3, .pointer (some ⟨b29, 0, none⟩)), (4, .int .i64 x24), (5, .int .i64 x25), (6, .slice A46 ((ShortestWay_v0 m13 ps17 x24 x25).length) d47), (7, .bool true), (8, .slice A61 ((ShortestWay_v0 m13 ps17 x24 x25).length) d62), (9, .bool true), (10, .int .i64 u), (11, .int .i64 ((i : Nat) : Int)), (12, .int .i64 s), (13, .int .i64 ((k + 1 : Nat) : Int)), (28, .bool false), (57, .bool false), (58, .bool true), (63, .bool true), (70, .bool true), (93, .bool false), (120, .bool false)] (fun U519 => ?_)
                    exact h49 _ _ _ (by omega : (n15 - (k + 1)) < _) ⟨k + 1, s, (fun iU9 => lk [(0, .slice A n c), (2, .bool false), (3, .pointer (some ⟨b29, 0, none⟩)), (4, .int .i64 x24), (5, .int .i64 x25), (6, .slice A46 ((ShortestWay_v0 m13 ps17 x24 x25).length) d47), (7, .bool true), (8, .slice A61 ((ShortestWay_v0 m13 ps17 x24 x25).length) d62), (9, .bool true), (10, .int .i64 u), (11, .int .i64 ((i : Nat) : Int)), (12, .int .i64 s), (13, .int .i64 ((k + 1 : Nat) : Int)), (28, .bool false), (57, .bool false), (58, .bool true), (63, .bool true), (70, .bool true), (93, .bool false), (120, .bool false)] iU9 (U519 iU9)), (by kernel_rfl), rfl, (by omega), (by rw [nxt_take hx358, ← hs]; unfold nxtP; (repeat' split) <;> first | rfl | omega), x40, rd517, rd518, rd516, c515⟩
              · refine F.q (v := .bool false) (hr := (r_lss (m := ((k : Nat) : Int)) (n := ((n15 : Nat) : Int)) rfl (ev_any (by kernel_rfl)) (ev_any (by kernel_rfl)) (decide_eq_false q352))) (h := ?_)
                refine F.endF [(0, .slice A n c), (2, .bool false), (3, .pointer (some ⟨b29, 0, none⟩)), (4, .int .i64 x24), (5, .int .i64 x25), (6, .slice A46 ((ShortestWay_v0 m13 ps17 x24 x25).length) d47), (7, .bool true), (8, .slice A61 ((ShortestWay_v0 m13 ps17 x24 x25).length) d62), (9, .bool true), (10, .int .i64 u), (11, .int .i64 ((i : Nat) : Int)), (12, .int .i64 s), (13, .int .i64 ((k : Nat) : Int)), (28, .bool false), (57, .bool false), (58, .bool true), (63, .bool true), (70, .bool false)] (fun U520 => ?_)
                refine h51 _ _ ?_
                refine wp_cond_false (by kernel_rfl) ?_
                refine wp_exit ?_
                refine h47 _ _ ?_
                refine W.region_quiet [(0, false), (1, false)] (by kernel_rfl) ?_
                refine F.mv (v := .int .i64 s) (h := ?_)
                refine F.as (v := .int .i64 s) (h := ?_)
                refine F.endF [(0, .slice A n c), (2, .bool false), (3, .pointer (some ⟨b29, 0, none⟩)), (4, .int .i64 x24), (5, .int .i64 x25), (6, .slice A46 ((ShortestWay_v0 m13 ps17 x24 x25).length) d47), (7, .bool true), (8, .slice A61 ((ShortestWay_v0 m13 ps17 x24 x25).length) d62), (9, .bool true), (10, .int .i64 s), (11, .int .i64 ((i : Nat) : Int)), (12, .int .i64 s), (13, .int .i64 ((k : Nat) : Int)), (28, .bool false), (57, .bool false), (58, .bool true), (63, .bool true), (70, .bool false)] (fun U521 => ?_)
                refine h45 _ _ ?_
                refine W.region_quiet [(0, false), (1, false), (2, false)] (by kernel_rfl) ?_
                refine F.mv (v := .int .i64 ((i : Nat) : Int)) (h := ?_)
                refine F.q (v := .int .i64 ((i + 1 : Nat) : Int)) (hr := (r_add (m := ((i : Nat) : Int)) (n := 1) (z := ((i + 1 : Nat) : Int)) rfl (ev_any (by kernel_rfl)) (ev_any (by kernel_rfl)) (by omega) (by omega))) (h := ?_)
                refine F.as (v := .int .i64 ((i + 1 : Nat) : Int)) (h := ?_)
                refine F.endF [(0, .slice A n c), (2, .bool false), (3, .pointer (some ⟨b29, 0, none⟩)), (4, .int .i64 x24), (5, .int .i64 x25), (6, .slice A46 ((ShortestWay_v0 m13 ps17 x24 x25).length) d47), (7, .bool true), (8, .slice A61 ((ShortestWay_v0 m13 ps17 x24 x25).length) d62), (9, .bool true), (10, .int .i64 s), (11, .int .i64 ((i + 1 : Nat) : Int)), (12, .int .i64 s), (13, .int .i64 ((k : Nat) : Int)), (28, .bool false), (57, .bool false), (58, .bool true), (63, .bool true), (70, .bool false)] (fun U522 => ?_)
                exact h42 _ _ _ (by omega : ((ShortestWay_v0 m13 ps17 x24 x25).length - (i + 1)) < _) ⟨i + 1, s, (fun iU9 => lk [(0, .slice A n c), (2, .bool false), (3, .pointer (some ⟨b29, 0, none⟩)), (4, .int .i64 x24), (5, .int .i64 x25), (6, .slice A46 ((ShortestWay_v0 m13 ps17 x24 x25).length) d47), (7, .bool true), (8, .slice A61 ((ShortestWay_v0 m13 ps17 x24 x25).length) d62), (9, .bool true), (10, .int .i64 s), (11, .int .i64 ((i + 1 : Nat) : Int)), (12, .int .i64 s), (13, .int .i64 ((k : Nat) : Int)), (28, .bool false), (57, .bool false), (58, .bool true), (63, .bool true), (70, .bool false)] iU9 (U522 iU9)), (by kernel_rfl), rfl, (by omega), (by rw [hs, List.take_of_length_le (by omega)]; exact (Onway.next hpI hri how hx350).1), x40, kl1_0, kl1_1, kl1_2, c351⟩
            · refine F.q (v := .bool false) (hr := (r_lss (m := ((i : Nat) : Int)) (n := (((ShortestWay_v0 m13 ps17 x24 x25).length : Nat) : Int)) rfl (ev_any (by kernel_rfl)) (ev_any (by kernel_rfl)) (decide_eq_false q345))) (h := ?_)
              refine F.endF [(0, .slice A n c), (2, .bool false), (3, .pointer (some ⟨b29, 0, none⟩)), (4, .int .i64 x24), (5, .int .i64 x25), (6, .slice A46 ((ShortestWay_v0 m13 ps17 x24 x25).length) d47), (7, .bool true), (8, .slice A61 ((ShortestWay_v0 m13 ps17 x24 x25).length) d62), (9, .bool true), (10, .int .i64 u), (11, .int .i64 ((i : Nat) : Int)), (28, .bool false), (57, .bool false), (58, .bool true), (63, .bool false)] (fun U523 => ?_)
              refine h44 _ _ ?_
              refine wp_cond_false (by kernel_rfl) ?_
              refine wp_exit ?_
              refine h40 _ _ ?_
              refine wp_seq_k (fun K58 h58 => ?_)
              refine W.region_plain (row := none) [(0, false), (1, false), (2, false), (3, true), (4, false), (5, false), (6, false), (7, false), (8, false)] (by kernel_rfl) ?_
              have s524 := SG.self wl0 none
              refine F.q (v := .agg #[.int .i64 m13, .slice A14 n15 c16]) (hr := (r_load2 rfl (ev_any (by kernel_rfl)) (by kernel_rfl) (by kernel_rfl) (sgS (blk_cell (j := 0) x40 (by kernel_rfl)) (Option.some_ne_none _)) (sgS (blk_cell (j := 1) x40 (by kernel_rfl)) (Option.some_ne_none _)))) (h := ?_)
              refine F.mv (v := .int .i64 x25) (h := ?_)
              refine F.mv (v := .int .i64 x24) (h := ?_)
              refine W.sc (vs := [.agg #[.int .i64 m13, .slice A14 n15 c16], .int .i64 x25, .int .i64 x24]) rfl rfl (by kernel_rfl) (by kernel_rfl) (by kernel_rfl) rfl (ShortestWay_impl m13 A14 n15 c16 ps17 x25 x24 _ (Rd.kept kl0_2 (SG.below s524)) (by omega)) ?_
              rintro e w533 ⟨A525, d526, rfl, r527, b532⟩
              have s534 := SG.of_below s524 b532
              refine ⟨_, rfl, s534, ?_⟩
              refine F.nx ?_
              have rd528 := own_rd r527
              have fm529 := own_fm r527
              have hl530 : (ShortestWay_v0 m13 ps17 x25 x24).length = (ShortestWay_v0 m13 ps17 x25 x24).length := rfl
              have hb535 := ShortestWay_len m13 ps17 x25 x24
              refine F.mv (v := .tuple #[.slice A525 ((ShortestWay_v0 m13 ps17 x25 x24).length) d526, .bool (ShortestWay_v1 m13 ps17 x25 x24)]) (h := ?_)
              refine F.q (v := .slice A525 ((ShortestWay_v0 m13 ps17 x25 x24).length) d526) (hr := (r_extract (vs := #[.slice A525 ((ShortestWay_v0 m13 ps17 x25 x24).length) d526, .bool (ShortestWay_v1 m13 ps17 x25 x24)]) rfl (ev_any (by kernel_rfl)) (by kernel_rfl))) (h := ?_)
              refine F.q (v := .bool (ShortestWay_v1 m13 ps17 x25 x24)) (hr := (r_extract (vs := #[.slice A525 ((ShortestWay_v0 m13 ps17 x25 x24).length) d526, .bool (ShortestWay_v1 m13 ps17 x25 x24)]) rfl (ev_any (by kernel_rfl)) (by kernel_rfl))) (h := ?_)
              refine F.as (v := .slice A525 ((ShortestWay_v0 m13 ps17 x25 x24).length) d526) (h := ?_)
              refine F.as (v := .bool (ShortestWay_v1 m13 ps17 x25 x24)) (h := ?_)
              refine F.endF [(0, .slice A n c), (2, .bool false), (3, .pointer (some ⟨b29, 0, none⟩)), (4, .int .i64 x24), (5, .int .i64 x25), (6, .slice A46 ((ShortestWay_v0 m13 ps17 x24 x25).length) d47), (7, .bool true), (8, .slice A61 ((ShortestWay_v0 m13 ps17 x24 x25).length) d62), (9, .bool true), (10, .int .i64 u), (11, .int .i64 ((i : Nat) : Int)), (14, .slice A525 ((ShortestWay_v0 m13 ps17 x25 x24).length) d526), (15, .bool (ShortestWay_v1 m13 ps17 x25 x24)), (28, .bool false), (57, .bool false), (58, .bool true), (63, .bool false)] (fun U536 => ?_)
              have x40 := SG.blk s534 x40 (Option.some_ne_none _)
              have c537 := (SG.belowR c344 s534 (fun kq e => by cases e))
              have rd538 := Rd.kept kl0_2 (SG.below s534)
              have rd539 := Rd.kept kl0_0 (SG.below s534)
              have rd540 := Rd.kept kl0_1 (SG.below s534)
              refine h58 _ _ ?_
              refine wp_seq_k (fun K59 h59 => ?_)
              refine W.region_quiet [(0, false), (1, false), (2, false), (3, false), (4, false), (5, false), (6, false), (7, false), (8, false), (9, false), (10, false), (11, false), (12, false), (13, false)] (by kernel_rfl) ?_
              refine F.mv (v := .int .i64 u) (h := ?_)
              refine F.mv (v := .int .i64 x25) (h := ?_)
              refine F.q (v := .bool false) (hr := (r_neq (m := u) (n := x25) rfl (ev_any (by kernel_rfl)) (ev_any (by kernel_rfl)) (decide_eq_false (fun h9 => h9 (Onway.fin hpI how (by omega)))))) (h := ?_)
              refine F.mv (v := .bool false) (h := ?_)
              refine F.mv (v := .bool (ShortestWay_v1 m13 ps17 x25 x24)) (h := ?_)
              have q541 : (ShortestWay_v1 m13 ps17 x25 x24) = true := (way_back q341).1
              rw [q541]
              refine F.q (v := .bool false) (hr := (r_not (b := true) rfl (ev_any (by kernel_rfl)) rfl)) (h := ?_)
              refine F.q (v := .bool false) (hr := (r_pick (b := false) rfl (ev_any (by kernel_rfl)) (ev_any (by kernel_rfl)))) (h := ?_)
              refine F.mv (v := .bool false) (h := ?_)
              refine F.mv (v := .slice A525 ((ShortestWay_v0 m13 ps17 x25 x24).length) d526) (h := ?_)
              refine F.q (v := .int .i64 (((ShortestWay_v0 m13 ps17 x25 x24).length : Nat) : Int)) (hr := (r_len (A := A525) (n := (ShortestWay_v0 m13 ps17 x25 x24).length) (c := d526) rfl (ev_any (by kernel_rfl)) (by kernel_rfl))) (h := ?_)
              refine F.mv (v := .slice A46 ((ShortestWay_v0 m13 ps17 x24 x25).length) d47) (h := ?_)
              refine F.q (v := .int .i64 (((ShortestWay_v0 m13 ps17 x24 x25).length : Nat) : Int)) (hr := (r_len (A := A46) (n := (ShortestWay_v0 m13 ps17 x24 x25).length) (c := d47) rfl (ev_any (by kernel_rfl)) (by kernel_rfl))) (h := ?_)
              refine F.q (v := .bool false) (hr := (r_neq (m := (((ShortestWay_v0 m13 ps17 x25 x24).length : Nat) : Int)) (n := (((ShortestWay_v0 m13 ps17 x24 x25).length : Nat) : Int)) rfl (ev_any (by kernel_rfl)) (ev_any (by kernel_rfl)) (decide_eq_false (by have h9 := (way_back q341).2; omega)))) (h := ?_)
              refine F.q (v := .bool false) (hr := (r_pick (b := false) rfl (ev_any (by kernel_rfl)) (ev_any (by kernel_rfl)))) (h := ?_)
              refine F.endF [(0, .slice A n c), (2, .bool false), (3, .pointer (some ⟨b29, 0, none⟩)), (4, .int .i64 x24), (5, .int .i64 x25), (6, .slice A46 ((ShortestWay_v0 m13 ps17 x24 x25).length) d47), (7, .bool true), (8, .slice A61 ((ShortestWay_v0 m13 ps17 x24 x25).length) d62), (9, .bool true), (10, .int .i64 u), (11, .int .i64 ((i : Nat) : Int)), (14, .slice A525 ((ShortestWay_v0 m13 ps17 x25 x24).length) d526), (15, .bool true), (28, .bool false), (57, .bool false), (58, .bool true), (63, .bool false), (148, .bool false)] (fun U542 => ?_)
              refine h59 _ _ ?_
              as_aux_lemma =>
                refine wp_cond_false (by kernel_rfl) ?_
                refine wp_skip ?_
                exact h37 _ _ _ ⟨(fun iU9 => lk [(0, .slice A n c), (2, .bool false), (3, .pointer (some ⟨b29, 0, none⟩)), (4, .int .i64 x24), (5, .int .i64 x25), (6, .slice A46 ((ShortestWay_v0 m13 ps17 x24 x25).length) d47), (7, .bool true), (8, .slice A61 ((ShortestWay_v0 m13 ps17 x24 x25).length) d62), (9, .bool true), (10, .int .i64 u), (11, .int .i64 ((i : Nat) : Int)), (14, .slice A525 ((ShortestWay_v0 m13 ps17 x25 x24).length) d526), (15, .bool true), (28, .bool false), (57, .bool false), (58, .bool true), (63, .bool false), (148, .bool false)] iU9 (U542 iU9)), (by kernel_rfl), rfl, x40, rd538, c537⟩
        · rw [q341]
          refine wp_cond_false (by kernel_rfl) ?_
          refine wp_skip ?_
          exact h37 _ _ _ ⟨(fun iU9 => lk [(0, .slice A n c), (2, .bool false), (3, .pointer (some ⟨b29, 0, none⟩)), (4, .int .i64 x24), (5, .int .i64 x25), (6, .slice A46 ((ShortestWay_v0 m13 ps17 x24 x25).length) d47), (7, .bool false), (8, .slice A61 ((ShortestWay_v0 m13 ps17 x24 x25).length) d62), (9, .bool false), (28, .bool false), (57, .bool false), (58, .bool false)] iU9 (U340 iU9)), (by kernel_rfl), rfl, x40, rd82, c81⟩

theorem byte_of {n : Int} (h : (Lit.int .u8 n).wf = true) : 0 ≤ n ∧ n < 256 := by
  have h2 : (decide ((0 : Int) ≤ n) && decide (n ≤ 255)) = true := h
  simp only [Bool.and_eq_true, decide_eq_true_eq] at h2
  omega
theorem w_FnWays (x0 : Option Addr) (n0 p0 : Nat) (a0 : List Int) (w : World) (H0 : a0.length = n0 ∧ Rd w 1 x0 n0 (a0.map (Value.int .u8)) ∧ n0 ≤ maxLen ∧ ∀ n ∈ a0, (Lit.int .u8 n).wf = true) :
    Calls Try.prog 5 #[.slice x0 n0 p0] w fun e w' => e = .returned (.bool true) ∧ Below w.heap.size w w' :=
  wi_FnWays x0 n0 p0 a0 w H0.2.1 (fun z hz => byte_of (H0.2.2.2 z hz)) (by have := H0.2.2.1; unfold maxLen at this; omega)

end Go.Proofs.Ytdlcldaogcbnlaa
