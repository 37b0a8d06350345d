/- The walk of the law FnExactAddPipe. -/
import Derived.Test.YtmfapokolgnnhaaAddS
import Derived.Test.YtmfapokolgnnhaaAddI
import Derived.Test.YtmfapokolgnnhaaNetH
import Derived.Test.YtmfapokolgnnhaaJoinK
import Derived.Test.YtmfapokolgnnhaaRows
import Derived.Test.YtmfapokolgnnhaaFr
namespace Go.Proofs.Ytmfapokolgnnhaa
open Go.RowKit
set_option linter.unusedVariables false
set_option linter.unusedSimpArgs false

theorem sp_row {W w : World} {size n base sz k : Nat} {A : Option Addr} {xs ys : List Value} {e : TypeId} {v : Value} (h : Rd W size A n xs) (how : w.ownsRow base e sz v k ys) (hb : W.heap.size ≤ base) : Sp A n v.ownBlock := fun hn b off e1 e2 => by
  obtain ⟨b9, off9, e9, h9, _⟩ := h.2 hn
  rw [e1] at e9
  cases e9
  have := (World.ownsRow.lt how b e2.symm).1
  omega

set_option maxRecDepth 100000 in
set_option maxHeartbeats 8000000 in
theorem w_FnExactAddPipe (m0 : Int) (x0 : Option Addr) (n0 p0 : Nat) (a0 : List Pp) (a1 : Pp) (_k1 : a1.wf) (w : World) (H0 : wf64 m0 ∧ a0.length = n0 ∧ Rd w 4 x0 n0 (pipesV a0) ∧ n0 ≤ maxLen ∧ ∀ p ∈ a0, p.wf) :
    Calls Try.prog 8 #[.agg #[.int .i64 m0, .slice x0 n0 p0], .agg #[.int .i64 a1.id, .int .i64 a1.fr, .int .i64 a1.to, .int .i64 a1.sz]] w fun e w' => e = .returned (.bool true) ∧ Below w.heap.size w w' := by
  obtain ⟨_, _, h0, z0, _⟩ := H0
  unfold maxLen at z0
  have hl0 := rd_pipes_len h0
  have hvl := AddPipe_len m0 a0 a1
  go_enter Try.func8, Try.ntmps8
  refine wp_seq_k (fun K1 h1 => ?_)
  refine W.region_plain (row := none) [(0, true), (1, true), (2, false)] (by kernel_rfl) ?_
  have s1 := SG.self w none
  refine W.sn (fun b => .pointer (some ⟨b, 0, none⟩)) #[.int .i64 m0, .slice x0 n0 p0] 24 s1 rfl (by kernel_rfl) rfl (fun _ => by kernel_rfl) (fun b2 w3 hb4 k5 x6 s7 => ?_)
  have lo8 : w.heap.size ≤ b2 := Nat.le_trans ((SG.belowR (Below.refl _ _) s1 (fun kq e => by cases e))).size (Nat.le_of_eq hb4)
  refine W.sn (fun b => .pointer (some ⟨b, 0, none⟩)) #[.int .i64 a1.id, .int .i64 a1.fr, .int .i64 a1.to, .int .i64 a1.sz] 47 s7 rfl (by kernel_rfl) rfl (fun _ => by kernel_rfl) (fun b9 w10 hb11 k12 x13 s14 => ?_)
  have lo15 : w.heap.size ≤ b9 := Nat.le_trans ((SG.belowR (Below.refl _ _) s7 (fun kq e => by cases e))).size (Nat.le_of_eq hb11)
  have ne16 : b2 ≠ b9 := Nat.ne_of_lt (Nat.lt_of_lt_of_eq (blk_lt x6) hb11)
  have x6 := (k12.block _ (blk_lt x6)).trans x6
  refine W.as (v := .bool false) (h := ?_)
  refine W.endF 104 [(0, .agg #[.int .i64 m0, .slice x0 n0 p0]), (1, .agg #[.int .i64 a1.id, .int .i64 a1.fr, .int .i64 a1.to, .int .i64 a1.sz]), (2, .pointer (some ⟨b2, 0, none⟩)), (3, .pointer (some ⟨b9, 0, none⟩)), (4, .bool false)] (fun U17 => ?_)
  have c18 := (SG.belowR (Below.refl _ _) s14 (fun kq e => by cases e))
  refine h1 _ _ ?_
  refine wp_seq_k (fun K2 h2 => ?_)
  refine W.region_quiet [(0, false)] (by kernel_rfl) ?_
  refine F.as (v := .int .i64 1048576) (h := ?_)
  refine F.endF [(0, .agg #[.int .i64 m0, .slice x0 n0 p0]), (1, .agg #[.int .i64 a1.id, .int .i64 a1.fr, .int .i64 a1.to, .int .i64 a1.sz]), (2, .pointer (some ⟨b2, 0, none⟩)), (3, .pointer (some ⟨b9, 0, none⟩)), (4, .bool false), (5, .int .i64 1048576)] (fun U19 => ?_)
  refine h2 _ _ ?_
  refine wp_seq_k (fun K3 h3 => ?_)
  refine W.region_plain (row := none) [(0, false), (1, false), (2, true), (3, false)] (by kernel_rfl) ?_
  have s20 := SG.self w10 none
  refine F.q (v := .agg #[.int .i64 m0, .slice x0 n0 p0]) (hr := (r_load2 rfl (ev_any (by kernel_rfl)) (by kernel_rfl) (by kernel_rfl) (sgS (blk_cell (j := 0) x6 (by kernel_rfl)) (Option.some_ne_none _)) (sgS (blk_cell (j := 1) x6 (by kernel_rfl)) (Option.some_ne_none _)))) (h := ?_)
  refine F.mv (v := .int .i64 1048576) (h := ?_)
  refine W.sc (vs := [.agg #[.int .i64 m0, .slice x0 n0 p0], .int .i64 1048576]) rfl rfl (by kernel_rfl) (by kernel_rfl) (by kernel_rfl) rfl (szNetwork_any m0 x0 n0 p0 a0 1048576 _ (Rd.kept h0 (SG.belowR c18 s20 (fun kq e => by cases e))) (by omega) (by omega) (by omega)) ?_
  rintro e w22 ⟨rfl, b21⟩
  have s23 := SG.of_below s20 b21
  refine ⟨_, rfl, s23, ?_⟩
  refine F.nx ?_
  refine F.as (v := .int .i64 (szL 1048576 n0)) (h := ?_)
  refine F.endF [(0, .agg #[.int .i64 m0, .slice x0 n0 p0]), (1, .agg #[.int .i64 a1.id, .int .i64 a1.fr, .int .i64 a1.to, .int .i64 a1.sz]), (2, .pointer (some ⟨b2, 0, none⟩)), (3, .pointer (some ⟨b9, 0, none⟩)), (4, .bool false), (5, .int .i64 (szL 1048576 n0))] (fun U24 => ?_)
  have x6 := SG.blk s23 x6 (Option.some_ne_none _)
  have x13 := SG.blk s23 x13 (Option.some_ne_none _)
  have c25 := (SG.belowR c18 s23 (fun kq e => by cases e))
  refine h3 _ _ ?_
  refine wp_seq_k (fun K4 h4 => ?_)
  refine wp_seq_k (fun K5 h5 => ?_)
  refine W.region_quiet [(0, false), (1, false)] (by kernel_rfl) ?_
  refine F.mv (v := .int .i64 (szL 1048576 n0)) (h := ?_)
  by_cases q26 : ((szL 1048576 n0) : Int) < (0 : Int)
  · refine F.q (v := .bool true) (hr := (r_lss (m := (szL 1048576 n0)) (n := 0) rfl (ev_any (by kernel_rfl)) (ev_any (by kernel_rfl)) (decide_eq_true q26))) (h := ?_)
    refine F.endF [(0, .agg #[.int .i64 m0, .slice x0 n0 p0]), (1, .agg #[.int .i64 a1.id, .int .i64 a1.fr, .int .i64 a1.to, .int .i64 a1.sz]), (2, .pointer (some ⟨b2, 0, none⟩)), (3, .pointer (some ⟨b9, 0, none⟩)), (4, .bool false), (5, .int .i64 (szL 1048576 n0)), (20, .bool true)] (fun U27 => ?_)
    refine h5 _ _ ?_
    refine wp_cond_true (by kernel_rfl) ?_
    refine wp_seq_k (fun K6 h6 => ?_)
    refine W.region_quiet [(0, false)] (by kernel_rfl) ?_
    refine F.as (v := .bool true) (h := ?_)
    refine F.endF [(0, .agg #[.int .i64 m0, .slice x0 n0 p0]), (1, .agg #[.int .i64 a1.id, .int .i64 a1.fr, .int .i64 a1.to, .int .i64 a1.sz]), (2, .pointer (some ⟨b2, 0, none⟩)), (3, .pointer (some ⟨b9, 0, none⟩)), (4, .bool true), (5, .int .i64 (szL 1048576 n0)), (20, .bool true)] (fun U28 => ?_)
    refine h6 _ _ ?_
    refine wp_ret ?_
    try simp only [Exit.then]
    refine ret1 (v := .bool true) rfl (by kernel_rfl) ?_
    exact ⟨rfl, c25⟩
  · have hsz : (n0 : Int) ≤ 1048576 := Classical.byContradiction (fun h9 => by rw [szL_neg h9] at q26; omega)
    refine F.q (v := .bool false) (hr := (r_lss (m := (szL 1048576 n0)) (n := 0) rfl (ev_any (by kernel_rfl)) (ev_any (by kernel_rfl)) (decide_eq_false q26))) (h := ?_)
    refine F.endF [(0, .agg #[.int .i64 m0, .slice x0 n0 p0]), (1, .agg #[.int .i64 a1.id, .int .i64 a1.fr, .int .i64 a1.to, .int .i64 a1.sz]), (2, .pointer (some ⟨b2, 0, none⟩)), (3, .pointer (some ⟨b9, 0, none⟩)), (4, .bool false), (5, .int .i64 (szL 1048576 n0)), (20, .bool false)] (fun U29 => ?_)
    refine h5 _ _ ?_
    as_aux_lemma =>
      refine wp_cond_false (by kernel_rfl) ?_
      refine wp_skip ?_
      refine h4 _ _ ?_
      refine joinK (fun _ aa wl5 => ∃ (A5 : Option Addr) (d5 g5 : Nat) (U5 : Nat → Value), aa = ⟨(fr U5 [(0, .agg #[.int .i64 m0, .slice x0 n0 p0]), (1, .agg #[.int .i64 a1.id, .int .i64 a1.fr, .int .i64 a1.to, .int .i64 a1.sz]), (2, .pointer (some ⟨b2, 0, none⟩)), (3, .pointer (some ⟨b9, 0, none⟩)), (4, .bool false), (5, .int .i64 (szL 1048576 n0)), (6, .pointer (some ⟨g5, 0, none⟩)), (7, .bool (AddPipe_v1 m0 a0 a1)), (20, .bool false)] 104 0).toArray, []⟩ ∧ (wl5.heap[b2]? = some (.cells #[.int .i64 m0, .slice x0 n0 p0] 24 (0, 0))) ∧ (wl5.heap[b9]? = some (.cells #[.int .i64 a1.id, .int .i64 a1.fr, .int .i64 a1.to, .int .i64 a1.sz] 47 (0, 0))) ∧ (wl5.heap[g5]? = some (.cells #[.int .i64 (AddPipe_m0 m0 a0 a1), .slice A5 ((AddPipe_v0 m0 a0 a1).length) d5] 29 (0, 0))) ∧ (w.heap.size ≤ g5) ∧ (Rd wl5 4 A5 ((AddPipe_v0 m0 a0 a1).length) (pipesV (AddPipe_v0 m0 a0 a1))) ∧ (b2 ≠ g5) ∧ (b9 ≠ g5) ∧ (Below w.heap.size w wl5)) ?_ ?_
      · rintro am5 aa5 wl5 ⟨A5, d5, g5, U5, rfl, x5_0, x5_1, hx5, hlo5, ho5, ne5_0, ne5_1, cb5⟩
        have hl5 := rd_pipes_len ho5
        refine wp_seq_k (fun K7 h7 => ?_)
        refine W.region_plain (row := none) [(0, false), (1, true), (2, true), (3, true)] (by kernel_rfl) ?_
        have s30 := SG.self wl5 none
        refine F.q (v := .agg #[.int .i64 m0, .slice x0 n0 p0]) (hr := (r_load2 rfl (ev_any (by kernel_rfl)) (by kernel_rfl) (by kernel_rfl) (sgS (blk_cell (j := 0) x5_0 (by kernel_rfl)) (Option.some_ne_none _)) (sgS (blk_cell (j := 1) x5_0 (by kernel_rfl)) (Option.some_ne_none _)))) (h := ?_)
        have lb37 := (Nat.lt_of_lt_of_le (blk_lt x5_0) (s30).size)
        have lb38 := (Nat.lt_of_lt_of_le (blk_lt x5_1) (s30).size)
        have lb39 := (Nat.lt_of_lt_of_le (blk_lt hx5) (s30).size)
        have zl40 := Nat.le_refl wl5.heap.size
        have z35 := ((SG.belowR cb5 s30 (fun kq e => by cases e))).size
        refine W.sc (vs := [.agg #[.int .i64 m0, .slice x0 n0 p0]]) rfl rfl (by kernel_rfl) (by kernel_rfl) (by kernel_rfl) rfl (toNetwork_any m0 x0 n0 p0 a0 _ (Rd.kept h0 (SG.belowR cb5 s30 (fun kq e => by cases e))) (by omega)) ?_
        rintro e w42 ⟨A31, d32, rfl, ho33, b41⟩
        have s43 := SG.of_below s30 b41
        refine ⟨_, rfl, s43, ?_⟩
        refine F.nx ?_
        have ho34 := own_base (base' := w.heap.size) ho33 z35
        have hlr36 := rd_pipes_len (own_rd ho34)
        have nb44 : Nb b2 (.slice A31 n0 d32) := nb_lo ho33 lb37
        have nb45 : Nb b9 (.slice A31 n0 d32) := nb_lo ho33 lb38
        have nb46 : Nb g5 (.slice A31 n0 d32) := nb_lo ho33 lb39
        have sp47 : Sp A5 ((AddPipe_v0 m0 a0 a1).length) (Value.ownBlock (.slice A31 n0 d32)) := sp_row ho5 ho33 (by omega)
        refine W.sn (fun b => .pointer (some ⟨b, 0, none⟩)) #[.int .i64 0, .slice none 0 0] 29 s43 rfl (by kernel_rfl) rfl (fun _ => by kernel_rfl) (fun b48 w49 hb50 k51 x52 s53 => ?_)
        refine F.nx ?_
        have lo54 : w.heap.size ≤ b48 := Nat.le_trans ((SG.belowR cb5 s43 (fun kq e => by cases e))).size (Nat.le_of_eq hb50)
        have sp55 : Sp A5 ((AddPipe_v0 m0 a0 a1).length) (some b48) := sp_new ho5 (by have := (s43).size; have := hb50; omega)
        have ne56 : b2 ≠ b48 := Nat.ne_of_lt (Nat.lt_of_lt_of_eq (Nat.lt_of_lt_of_le (blk_lt x5_0) (s43).size) hb50)
        have ne57 : b9 ≠ b48 := Nat.ne_of_lt (Nat.lt_of_lt_of_eq (Nat.lt_of_lt_of_le (blk_lt x5_1) (s43).size) hb50)
        have ne58 : g5 ≠ b48 := Nat.ne_of_lt (Nat.lt_of_lt_of_eq (Nat.lt_of_lt_of_le (blk_lt hx5) (s43).size) hb50)
        have nb59 : Nb b48 (.slice A31 n0 d32) := nb_hi ho34 (Nat.le_of_eq hb50)
        have ho60 := own_kept ho34 k51
        refine W.ss (v := .agg #[.int .i64 m0, .slice A31 n0 d32]) (j := 0) (news := [.int .i64 m0, .slice A31 n0 d32]) (cs' := #[.int .i64 m0, .slice A31 n0 d32]) s53 rfl (by kernel_rfl) rfl rfl (by kernel_rfl) (by kernel_rfl) x52 (by kernel_rfl) (by kernel_rfl) (by simp) (by kernel_rfl) (by kernel_rfl) (.inr (Nat.le_trans (s43).size (Nat.le_of_eq hb50))) (fun w61 g62 x63 s64 => ?_)
        have ho65 := own_grown ho60 g62 (fun j e1 e2 => by cases e2; exact nb59 e1.symm)
        refine F.endF [(0, .agg #[.int .i64 m0, .slice x0 n0 p0]), (1, .agg #[.int .i64 a1.id, .int .i64 a1.fr, .int .i64 a1.to, .int .i64 a1.sz]), (2, .pointer (some ⟨b2, 0, none⟩)), (3, .pointer (some ⟨b9, 0, none⟩)), (4, .bool false), (5, .int .i64 (szL 1048576 n0)), (6, .pointer (some ⟨g5, 0, none⟩)), (7, .bool (AddPipe_v1 m0 a0 a1)), (8, .pointer (some ⟨b48, 0, none⟩)), (20, .bool false)] (fun U66 => ?_)
        have x5_0 := SG.blk s64 x5_0 (Option.some_ne_none _)
        have x5_1 := SG.blk s64 x5_1 (Option.some_ne_none _)
        have hx5 := SG.blk s64 hx5 (Option.some_ne_none _)
        have c67 := (SG.belowR cb5 s64 (fun kq e => by cases e))
        have rd68 := Rd.kept ho5 (SG.below s64)
        refine h7 _ _ ?_
        refine joinK (fun _ aa wl7 => ∃ (A7 : Option Addr) (d7 g7 : Nat) (U7 : Nat → Value), aa = ⟨(fr U7 [(0, .agg #[.int .i64 m0, .slice x0 n0 p0]), (1, .agg #[.int .i64 a1.id, .int .i64 a1.fr, .int .i64 a1.to, .int .i64 a1.sz]), (2, .pointer (some ⟨b2, 0, none⟩)), (3, .pointer (some ⟨b9, 0, none⟩)), (4, .bool false), (5, .int .i64 (szL 1048576 n0)), (6, .pointer (some ⟨g5, 0, none⟩)), (7, .bool (AddPipe_v1 m0 a0 a1)), (8, .pointer (some ⟨b48, 0, none⟩)), (9, .pointer (some ⟨g7, 0, none⟩)), (10, .bool (AddPipe_v1 m0 a0 a1)), (20, .bool false)] 104 0).toArray, []⟩ ∧ (wl7.heap[b2]? = some (.cells #[.int .i64 m0, .slice x0 n0 p0] 24 (0, 0))) ∧ (wl7.heap[b9]? = some (.cells #[.int .i64 a1.id, .int .i64 a1.fr, .int .i64 a1.to, .int .i64 a1.sz] 47 (0, 0))) ∧ (wl7.heap[g5]? = some (.cells #[.int .i64 (AddPipe_m0 m0 a0 a1), .slice A5 ((AddPipe_v0 m0 a0 a1).length) d5] 29 (0, 0))) ∧ (wl7.heap[b48]? = some (.cells #[.int .i64 m0, .slice A31 n0 d32] 29 (0, 0))) ∧ (wl7.ownsRow w.heap.size 50 4 (.slice A31 n0 d32) n0 (pipesV a0)) ∧ (Rd wl7 4 A5 ((AddPipe_v0 m0 a0 a1).length) (pipesV (AddPipe_v0 m0 a0 a1))) ∧ (wl7.heap[g7]? = some (.cells #[.int .i64 (AddPipe_m0 m0 a0 a1), .slice A7 ((AddPipe_v0 m0 a0 a1).length) d7] 29 (0, 0))) ∧ (w.heap.size ≤ g7) ∧ (wl7.ownsRow w.heap.size 50 4 (.slice A7 ((AddPipe_v0 m0 a0 a1).length) d7) ((AddPipe_v0 m0 a0 a1).length) (pipesV (AddPipe_v0 m0 a0 a1))) ∧ (b2 ≠ g7) ∧ (b9 ≠ g7) ∧ (g5 ≠ g7) ∧ (b48 ≠ g7) ∧ (Nb g7 (.slice A31 n0 d32)) ∧ (Nb b2 (.slice A7 ((AddPipe_v0 m0 a0 a1).length) d7)) ∧ (Nb b9 (.slice A7 ((AddPipe_v0 m0 a0 a1).length) d7)) ∧ (Nb g5 (.slice A7 ((AddPipe_v0 m0 a0 a1).length) d7)) ∧ (Nb b48 (.slice A7 ((AddPipe_v0 m0 a0 a1).length) d7)) ∧ (Nb g7 (.slice A7 ((AddPipe_v0 m0 a0 a1).length) d7)) ∧ (NbR (.slice A7 ((AddPipe_v0 m0 a0 a1).length) d7) (.slice A31 n0 d32)) ∧ (Sp A5 ((AddPipe_v0 m0 a0 a1).length) (Value.ownBlock (.slice A7 ((AddPipe_v0 m0 a0 a1).length) d7))) ∧ (Below w.heap.size w wl7)) ?_ ?_
        · rintro am7 aa7 wl7 ⟨A7, d7, g7, U7, rfl, x7_0, x7_1, x7_2, x7_3, o7_0, l7_0, hx7, hlo7, ho7, ne7_0, ne7_1, ne7_2, ne7_3, ng7_0, nb7_0, nb7_1, nb7_2, nb7_3, nb7_g, nr7_0, sp7_0, cb7⟩
          refine wp_seq_k (fun K8 h8 => ?_)
          refine wp_seq_k (fun K9 h9 => ?_)
          refine W.region_plain (row := none) [(0, false), (1, false), (2, true), (3, false), (4, false), (5, false), (6, false), (7, false), (8, false)] (by kernel_rfl) ?_
          have s69 := SG.self wl7 none
          refine F.q (v := .agg #[.int .i64 (AddPipe_m0 m0 a0 a1), .slice A7 ((AddPipe_v0 m0 a0 a1).length) d7]) (hr := (r_load2 rfl (ev_any (by kernel_rfl)) (by kernel_rfl) (by kernel_rfl) (sgS (blk_cell (j := 0) hx7 (by kernel_rfl)) (Option.some_ne_none _)) (sgS (blk_cell (j := 1) hx7 (by kernel_rfl)) (Option.some_ne_none _)))) (h := ?_)
          refine F.q (v := .agg #[.int .i64 (AddPipe_m0 m0 a0 a1), .slice A5 ((AddPipe_v0 m0 a0 a1).length) d5]) (hr := (r_load2 rfl (ev_any (by kernel_rfl)) (by kernel_rfl) (by kernel_rfl) (sgS (blk_cell (j := 0) x7_2 (by kernel_rfl)) (Option.some_ne_none _)) (sgS (blk_cell (j := 1) x7_2 (by kernel_rfl)) (Option.some_ne_none _)))) (h := ?_)
          refine W.sc (vs := [.agg #[.int .i64 (AddPipe_m0 m0 a0 a1), .slice A7 ((AddPipe_v0 m0 a0 a1).length) d7], .agg #[.int .i64 (AddPipe_m0 m0 a0 a1), .slice A5 ((AddPipe_v0 m0 a0 a1).length) d5]]) rfl rfl (by kernel_rfl) (by kernel_rfl) (by kernel_rfl) rfl (eqNetwork_below (AddPipe_m0 m0 a0 a1) A7 A5 ((AddPipe_v0 m0 a0 a1).length) d7 d5 (AddPipe_v0 m0 a0 a1) _ (own_rd ho7) (Rd.kept l7_0 (SG.below s69)) (by omega)) ?_
          rintro e w71 ⟨rfl, b70⟩
          have s72 := SG.of_below s69 b70
          refine ⟨_, rfl, s72, ?_⟩
          refine F.nx ?_
          have ho73 := own_kept o7_0 b70
          have ho74 := own_kept ho7 b70
          refine F.q (v := .bool false) (hr := (r_not (b := true) rfl (ev_any (by kernel_rfl)) rfl)) (h := ?_)
          refine F.mv (v := .bool false) (h := ?_)
          refine F.mv (v := .bool (AddPipe_v1 m0 a0 a1)) (h := ?_)
          refine F.mv (v := .bool (AddPipe_v1 m0 a0 a1)) (h := ?_)
          refine F.q (v := .bool false) (hr := (r_neqB (m := (AddPipe_v1 m0 a0 a1)) (n := (AddPipe_v1 m0 a0 a1)) rfl (ev_any (by kernel_rfl)) (ev_any (by kernel_rfl)) (by kernel_rfl) (by rw [show ((AddPipe_v1 m0 a0 a1) == (AddPipe_v1 m0 a0 a1)) = true from beq_iff_eq.2 rfl]; rfl))) (h := ?_)
          refine F.q (v := .bool false) (hr := (r_pick (b := false) rfl (ev_any (by kernel_rfl)) (ev_any (by kernel_rfl)))) (h := ?_)
          refine F.endF [(0, .agg #[.int .i64 m0, .slice x0 n0 p0]), (1, .agg #[.int .i64 a1.id, .int .i64 a1.fr, .int .i64 a1.to, .int .i64 a1.sz]), (2, .pointer (some ⟨b2, 0, none⟩)), (3, .pointer (some ⟨b9, 0, none⟩)), (4, .bool false), (5, .int .i64 (szL 1048576 n0)), (6, .pointer (some ⟨g5, 0, none⟩)), (7, .bool (AddPipe_v1 m0 a0 a1)), (8, .pointer (some ⟨b48, 0, none⟩)), (9, .pointer (some ⟨g7, 0, none⟩)), (10, .bool (AddPipe_v1 m0 a0 a1)), (20, .bool false), (46, .bool false)] (fun U75 => ?_)
          have x7_0 := SG.blk s72 x7_0 (Option.some_ne_none _)
          have x7_1 := SG.blk s72 x7_1 (Option.some_ne_none _)
          have x7_2 := SG.blk s72 x7_2 (Option.some_ne_none _)
          have x7_3 := SG.blk s72 x7_3 (Option.some_ne_none _)
          have hx7 := SG.blk s72 hx7 (Option.some_ne_none _)
          have c76 := (SG.belowR cb7 s72 (fun kq e => by cases e))
          have rd77 := Rd.kept l7_0 (SG.below s72)
          refine h9 _ _ ?_
          as_aux_lemma =>
            refine wp_cond_false (by kernel_rfl) ?_
            refine wp_skip ?_
            refine h8 _ _ ?_
            refine wp_seq_k (fun K10 h10 => ?_)
            refine wp_seq_k (fun K11 h11 => ?_)
            refine W.region_sch (row := none) (Sch.of [(0, false), (1, false), (2, true), (3, true), (4, false)]) (by kernel_rfl) (by kernel_rfl) (fun _ d _ _ _ h => by cases d <;> exact h) (by kernel_rfl) (fun w78 e79 s80 => ?_)
            have ho81 := own_heap ho73 e79
            have ho82 := own_heap ho74 e79
            refine F.q (v := .agg #[.int .i64 m0, .slice A31 n0 d32]) (hr := (r_load2 rfl (ev_any (by kernel_rfl)) (by kernel_rfl) (by kernel_rfl) (sgS (blk_cell (j := 0) x7_3 (by kernel_rfl)) (Option.some_ne_none _)) (sgS (blk_cell (j := 1) x7_3 (by kernel_rfl)) (Option.some_ne_none _)))) (h := ?_)
            refine F.q (v := .agg #[.int .i64 m0, .slice x0 n0 p0]) (hr := (r_load2 rfl (ev_any (by kernel_rfl)) (by kernel_rfl) (by kernel_rfl) (sgS (blk_cell (j := 0) x7_0 (by kernel_rfl)) (Option.some_ne_none _)) (sgS (blk_cell (j := 1) x7_0 (by kernel_rfl)) (Option.some_ne_none _)))) (h := ?_)
            have lb89 := (Nat.lt_of_lt_of_le (blk_lt x7_0) (s80).size)
            have lb90 := (Nat.lt_of_lt_of_le (blk_lt x7_1) (s80).size)
            have lb91 := (Nat.lt_of_lt_of_le (blk_lt x7_2) (s80).size)
            have lb92 := (Nat.lt_of_lt_of_le (blk_lt x7_3) (s80).size)
            have lb93 := (Nat.lt_of_lt_of_le (blk_lt hx7) (s80).size)
            have zl94 := (s80).size
            have z87 := ((SG.belowR c76 s80 (fun kq e => by cases e))).size
            refine W.sc (vs := [.agg #[.int .i64 m0, .slice x0 n0 p0]]) rfl rfl (by kernel_rfl) (by kernel_rfl) (by kernel_rfl) rfl (toNetwork_any m0 x0 n0 p0 a0 _ (Rd.kept h0 (SG.belowR c76 s80 (fun kq e => by cases e))) (by omega)) ?_
            rintro e w96 ⟨A83, d84, rfl, ho85, b95⟩
            have s97 := SG.of_below s80 b95
            refine ⟨_, rfl, s97, ?_⟩
            refine F.nx ?_
            have ho98 := own_kept ho81 b95
            have ho99 := own_kept ho82 b95
            have ho86 := own_base (base' := w.heap.size) ho85 z87
            have hlr88 := rd_pipes_len (own_rd ho86)
            have nb100 : Nb b2 (.slice A83 n0 d84) := nb_lo ho85 lb89
            have nb101 : Nb b9 (.slice A83 n0 d84) := nb_lo ho85 lb90
            have nb102 : Nb g5 (.slice A83 n0 d84) := nb_lo ho85 lb91
            have nb103 : Nb b48 (.slice A83 n0 d84) := nb_lo ho85 lb92
            have nb104 : Nb g7 (.slice A83 n0 d84) := nb_lo ho85 lb93
            have nr105 : NbR (.slice A83 n0 d84) (.slice A31 n0 d32) := fun j e1 e2 => by have h8 := (World.ownsRow.lt ho85 j e1).1; have h9 := (World.ownsRow.lt ho81 j e2).2; omega
            have nr106 : NbR (.slice A83 n0 d84) (.slice A7 ((AddPipe_v0 m0 a0 a1).length) d7) := fun j e1 e2 => by have h8 := (World.ownsRow.lt ho85 j e1).1; have h9 := (World.ownsRow.lt ho82 j e2).2; omega
            have sp107 : Sp A5 ((AddPipe_v0 m0 a0 a1).length) (Value.ownBlock (.slice A83 n0 d84)) := sp_row rd77 ho85 (by omega)
            refine W.sc (vs := [.agg #[.int .i64 m0, .slice A31 n0 d32], .agg #[.int .i64 m0, .slice A83 n0 d84]]) rfl rfl (by kernel_rfl) (by kernel_rfl) (by kernel_rfl) rfl (eqNetwork_below m0 A31 A83 n0 d32 d84 a0 _ (own_rd ho98) (own_rd ho86) (by omega)) ?_
            rintro e w109 ⟨rfl, b108⟩
            have s110 := SG.of_below s97 b108
            refine ⟨_, rfl, s110, ?_⟩
            refine F.nx ?_
            have ho111 := own_kept ho98 b108
            have ho112 := own_kept ho99 b108
            have ho113 := own_kept ho86 b108
            refine F.q (v := .bool false) (hr := (r_not (b := true) rfl (ev_any (by kernel_rfl)) rfl)) (h := ?_)
            refine F.endF [(0, .agg #[.int .i64 m0, .slice x0 n0 p0]), (1, .agg #[.int .i64 a1.id, .int .i64 a1.fr, .int .i64 a1.to, .int .i64 a1.sz]), (2, .pointer (some ⟨b2, 0, none⟩)), (3, .pointer (some ⟨b9, 0, none⟩)), (4, .bool false), (5, .int .i64 (szL 1048576 n0)), (6, .pointer (some ⟨g5, 0, none⟩)), (7, .bool (AddPipe_v1 m0 a0 a1)), (8, .pointer (some ⟨b48, 0, none⟩)), (9, .pointer (some ⟨g7, 0, none⟩)), (10, .bool (AddPipe_v1 m0 a0 a1)), (20, .bool false), (46, .bool false), (51, .bool false)] (fun U114 => ?_)
            have x7_0 := SG.blk s110 x7_0 (Option.some_ne_none _)
            have x7_1 := SG.blk s110 x7_1 (Option.some_ne_none _)
            have x7_2 := SG.blk s110 x7_2 (Option.some_ne_none _)
            have x7_3 := SG.blk s110 x7_3 (Option.some_ne_none _)
            have hx7 := SG.blk s110 hx7 (Option.some_ne_none _)
            have c115 := (SG.belowR c76 s110 (fun kq e => by cases e))
            have rd116 := Rd.kept rd77 (SG.below s110)
            refine h11 _ _ ?_
            refine wp_cond_false (by kernel_rfl) ?_
            refine wp_skip ?_
            refine h10 _ _ ?_
            refine wp_seq_k (fun K12 h12 => ?_)
            refine W.region_quiet [(0, false)] (by kernel_rfl) ?_
            refine F.as (v := .int .i64 1) (h := ?_)
            refine F.endF [(0, .agg #[.int .i64 m0, .slice x0 n0 p0]), (1, .agg #[.int .i64 a1.id, .int .i64 a1.fr, .int .i64 a1.to, .int .i64 a1.sz]), (2, .pointer (some ⟨b2, 0, none⟩)), (3, .pointer (some ⟨b9, 0, none⟩)), (4, .bool false), (5, .int .i64 (szL 1048576 n0)), (6, .pointer (some ⟨g5, 0, none⟩)), (7, .bool (AddPipe_v1 m0 a0 a1)), (8, .pointer (some ⟨b48, 0, none⟩)), (9, .pointer (some ⟨g7, 0, none⟩)), (10, .bool (AddPipe_v1 m0 a0 a1)), (11, .int .i64 1), (20, .bool false), (46, .bool false), (51, .bool false)] (fun U117 => ?_)
            refine h12 _ _ ?_
            refine wp_seq_k (fun K13 h13 => ?_)
            refine W.region_plain (row := (Value.ownBlock (.slice A31 n0 d32))) [(0, false), (1, false), (2, true), (3, false)] (by kernel_rfl) ?_
            have s118 := SG.self w109 (Value.ownBlock (.slice A31 n0 d32))
            refine F.q (v := .agg #[.int .i64 m0, .slice A31 n0 d32]) (hr := (r_load2 rfl (ev_any (by kernel_rfl)) (by kernel_rfl) (by kernel_rfl) (sgS (blk_cell (j := 0) x7_3 (by kernel_rfl)) nb59) (sgS (blk_cell (j := 1) x7_3 (by kernel_rfl)) nb59))) (h := ?_)
            refine F.mv (v := .int .i64 1) (h := ?_)
            refine W.sc (vs := [.agg #[.int .i64 m0, .slice A31 n0 d32], .int .i64 1]) rfl rfl (by kernel_rfl) (by kernel_rfl) (by kernel_rfl) rfl (markNetwork_any m0 A31 n0 d32 w.heap.size 1 _ _ ho111 (by omega) (by omega) (by omega)) ?_
            rintro e w120 ⟨rfl, ho122, g121⟩
            have s123 := SG.of_grown s118 g121 (.inl rfl)
            refine ⟨_, rfl, s123, ?_⟩
            refine F.nx ?_
            have nb125 : Nb b2 (.slice A31 n0 d32) := nb_app3 (v := .slice A31 n0 d32) nb44 (Nat.lt_of_lt_of_le (blk_lt x7_0) (s118).size) (.inl ob_same)
            have nb126 : Nb b9 (.slice A31 n0 d32) := nb_app3 (v := .slice A31 n0 d32) nb45 (Nat.lt_of_lt_of_le (blk_lt x7_1) (s118).size) (.inl ob_same)
            have nb127 : Nb g5 (.slice A31 n0 d32) := nb_app3 (v := .slice A31 n0 d32) nb46 (Nat.lt_of_lt_of_le (blk_lt x7_2) (s118).size) (.inl ob_same)
            have nb128 : Nb b48 (.slice A31 n0 d32) := nb_app3 (v := .slice A31 n0 d32) nb59 (Nat.lt_of_lt_of_le (blk_lt x7_3) (s118).size) (.inl ob_same)
            have nb129 : Nb g7 (.slice A31 n0 d32) := nb_app3 (v := .slice A31 n0 d32) ng7_0 (Nat.lt_of_lt_of_le (blk_lt hx7) (s118).size) (.inl ob_same)
            have sp130 := sp_app (v' := .slice A31 n0 d32) sp47 rd116 ((s118).size) (.inl ob_same)
            have nr131 : NbR (.slice A31 n0 d32) (.slice A7 ((AddPipe_v0 m0 a0 a1).length) d7) := nbr_app (NbR.symm nr7_0) (fun j h => (World.ownsRow.lt ho112 j h).2) (.inl ob_same)
            have ho132 := own_grown ho112 g121 nr7_0
            have nr133 : NbR (.slice A31 n0 d32) (.slice A83 n0 d84) := nbr_app (NbR.symm nr105) (fun j h => (World.ownsRow.lt ho113 j h).2) (.inl ob_same)
            have ho134 := own_grown ho113 g121 nr105
            refine F.as (v := .int .i64 (1 + 4 * ((n0 : Nat) : Int))) (h := ?_)
            refine F.endF [(0, .agg #[.int .i64 m0, .slice x0 n0 p0]), (1, .agg #[.int .i64 a1.id, .int .i64 a1.fr, .int .i64 a1.to, .int .i64 a1.sz]), (2, .pointer (some ⟨b2, 0, none⟩)), (3, .pointer (some ⟨b9, 0, none⟩)), (4, .bool false), (5, .int .i64 (szL 1048576 n0)), (6, .pointer (some ⟨g5, 0, none⟩)), (7, .bool (AddPipe_v1 m0 a0 a1)), (8, .pointer (some ⟨b48, 0, none⟩)), (9, .pointer (some ⟨g7, 0, none⟩)), (10, .bool (AddPipe_v1 m0 a0 a1)), (11, .int .i64 (1 + 4 * ((n0 : Nat) : Int))), (20, .bool false), (46, .bool false), (51, .bool false)] (fun U135 => ?_)
            have x7_0 := SG.blk s123 x7_0 nb44
            have x7_1 := SG.blk s123 x7_1 nb45
            have x7_2 := SG.blk s123 x7_2 nb46
            have x7_3 := SG.blk s123 x7_3 nb59
            have hx7 := SG.blk s123 hx7 ng7_0
            have c136 := (SG.belowR c115 s123 (fun kq e => (World.ownsRow.lt ho111 kq e).1))
            have rd137 := rd_sep rd116 s123 sp47
            refine h13 _ _ ?_
            as_aux_lemma =>
              refine wp_seq_k (fun K14 h14 => ?_)
              refine wp_seq_k (fun K15 h15 => ?_)
              refine W.region_plain (row := none) [(0, false), (1, false), (2, false), (3, false), (4, false), (5, true), (6, false), (7, false), (8, false), (9, false), (10, false), (11, false), (12, false)] (by kernel_rfl) ?_
              have s138 := SG.self w120 none
              refine F.mv (v := .int .i64 (1 + 4 * ((n0 : Nat) : Int))) (h := ?_)
              refine F.q (v := .bool false) (hr := (r_lss (m := (1 + 4 * ((n0 : Nat) : Int))) (n := 0) rfl (ev_any (by kernel_rfl)) (ev_any (by kernel_rfl)) (decide_eq_false (by omega)))) (h := ?_)
              refine F.mv (v := .bool false) (h := ?_)
              refine F.q (v := .agg #[.int .i64 (AddPipe_m0 m0 a0 a1), .slice A7 ((AddPipe_v0 m0 a0 a1).length) d7]) (hr := (r_load2 rfl (ev_any (by kernel_rfl)) (by kernel_rfl) (by kernel_rfl) (sgS (blk_cell (j := 0) hx7 (by kernel_rfl)) (Option.some_ne_none _)) (sgS (blk_cell (j := 1) hx7 (by kernel_rfl)) (Option.some_ne_none _)))) (h := ?_)
              refine F.q (v := .agg #[.int .i64 (AddPipe_m0 m0 a0 a1), .slice A5 ((AddPipe_v0 m0 a0 a1).length) d5]) (hr := (r_load2 rfl (ev_any (by kernel_rfl)) (by kernel_rfl) (by kernel_rfl) (sgS (blk_cell (j := 0) x7_2 (by kernel_rfl)) (Option.some_ne_none _)) (sgS (blk_cell (j := 1) x7_2 (by kernel_rfl)) (Option.some_ne_none _)))) (h := ?_)
              refine W.sc (vs := [.agg #[.int .i64 (AddPipe_m0 m0 a0 a1), .slice A7 ((AddPipe_v0 m0 a0 a1).length) d7], .agg #[.int .i64 (AddPipe_m0 m0 a0 a1), .slice A5 ((AddPipe_v0 m0 a0 a1).length) d5]]) rfl rfl (by kernel_rfl) (by kernel_rfl) (by kernel_rfl) rfl (eqNetwork_below (AddPipe_m0 m0 a0 a1) A7 A5 ((AddPipe_v0 m0 a0 a1).length) d7 d5 (AddPipe_v0 m0 a0 a1) _ (own_rd ho132) (Rd.kept rd137 (SG.below s138)) (by omega)) ?_
              rintro e w140 ⟨rfl, b139⟩
              have s141 := SG.of_below s138 b139
              refine ⟨_, rfl, s141, ?_⟩
              refine F.nx ?_
              have ho142 := own_kept ho122 b139
              have ho143 := own_kept ho132 b139
              have ho144 := own_kept ho134 b139
              refine F.q (v := .bool false) (hr := (r_not (b := true) rfl (ev_any (by kernel_rfl)) rfl)) (h := ?_)
              refine F.q (v := .bool false) (hr := (r_pick (b := false) rfl (ev_any (by kernel_rfl)) (ev_any (by kernel_rfl)))) (h := ?_)
              refine F.mv (v := .bool false) (h := ?_)
              refine F.mv (v := .bool (AddPipe_v1 m0 a0 a1)) (h := ?_)
              refine F.mv (v := .bool (AddPipe_v1 m0 a0 a1)) (h := ?_)
              refine F.q (v := .bool false) (hr := (r_neqB (m := (AddPipe_v1 m0 a0 a1)) (n := (AddPipe_v1 m0 a0 a1)) rfl (ev_any (by kernel_rfl)) (ev_any (by kernel_rfl)) (by kernel_rfl) (by rw [show ((AddPipe_v1 m0 a0 a1) == (AddPipe_v1 m0 a0 a1)) = true from beq_iff_eq.2 rfl]; rfl))) (h := ?_)
              refine F.q (v := .bool false) (hr := (r_pick (b := false) rfl (ev_any (by kernel_rfl)) (ev_any (by kernel_rfl)))) (h := ?_)
              refine F.endF [(0, .agg #[.int .i64 m0, .slice x0 n0 p0]), (1, .agg #[.int .i64 a1.id, .int .i64 a1.fr, .int .i64 a1.to, .int .i64 a1.sz]), (2, .pointer (some ⟨b2, 0, none⟩)), (3, .pointer (some ⟨b9, 0, none⟩)), (4, .bool false), (5, .int .i64 (szL 1048576 n0)), (6, .pointer (some ⟨g5, 0, none⟩)), (7, .bool (AddPipe_v1 m0 a0 a1)), (8, .pointer (some ⟨b48, 0, none⟩)), (9, .pointer (some ⟨g7, 0, none⟩)), (10, .bool (AddPipe_v1 m0 a0 a1)), (11, .int .i64 (1 + 4 * ((n0 : Nat) : Int))), (20, .bool false), (46, .bool false), (51, .bool false), (67, .bool false)] (fun U145 => ?_)
              have x7_0 := SG.blk s141 x7_0 (Option.some_ne_none _)
              have x7_1 := SG.blk s141 x7_1 (Option.some_ne_none _)
              have x7_2 := SG.blk s141 x7_2 (Option.some_ne_none _)
              have x7_3 := SG.blk s141 x7_3 (Option.some_ne_none _)
              have hx7 := SG.blk s141 hx7 (Option.some_ne_none _)
              have c146 := (SG.belowR c136 s141 (fun kq e => by cases e))
              have rd147 := Rd.kept rd137 (SG.below s141)
              refine h15 _ _ ?_
              refine wp_cond_false (by kernel_rfl) ?_
              refine wp_skip ?_
              refine h14 _ _ ?_
              refine wp_seq_k (fun K16 h16 => ?_)
              refine W.region_quiet [(0, false)] (by kernel_rfl) ?_
              refine F.as (v := .int .i64 1) (h := ?_)
              refine F.endF [(0, .agg #[.int .i64 m0, .slice x0 n0 p0]), (1, .agg #[.int .i64 a1.id, .int .i64 a1.fr, .int .i64 a1.to, .int .i64 a1.sz]), (2, .pointer (some ⟨b2, 0, none⟩)), (3, .pointer (some ⟨b9, 0, none⟩)), (4, .bool false), (5, .int .i64 (szL 1048576 n0)), (6, .pointer (some ⟨g5, 0, none⟩)), (7, .bool (AddPipe_v1 m0 a0 a1)), (8, .pointer (some ⟨b48, 0, none⟩)), (9, .pointer (some ⟨g7, 0, none⟩)), (10, .bool (AddPipe_v1 m0 a0 a1)), (11, .int .i64 (1 + 4 * ((n0 : Nat) : Int))), (12, .int .i64 1), (20, .bool false), (46, .bool false), (51, .bool false), (67, .bool false)] (fun U148 => ?_)
              refine h16 _ _ ?_
              refine wp_seq_k (fun K17 h17 => ?_)
              refine W.region_plain (row := (Value.ownBlock (.slice A7 ((AddPipe_v0 m0 a0 a1).length) d7))) [(0, false), (1, false), (2, true), (3, false)] (by kernel_rfl) ?_
              have s149 := SG.self w140 (Value.ownBlock (.slice A7 ((AddPipe_v0 m0 a0 a1).length) d7))
              refine F.q (v := .agg #[.int .i64 (AddPipe_m0 m0 a0 a1), .slice A7 ((AddPipe_v0 m0 a0 a1).length) d7]) (hr := (r_load2 rfl (ev_any (by kernel_rfl)) (by kernel_rfl) (by kernel_rfl) (sgS (blk_cell (j := 0) hx7 (by kernel_rfl)) nb7_g) (sgS (blk_cell (j := 1) hx7 (by kernel_rfl)) nb7_g))) (h := ?_)
              refine F.mv (v := .int .i64 1) (h := ?_)
              refine W.sc (vs := [.agg #[.int .i64 (AddPipe_m0 m0 a0 a1), .slice A7 ((AddPipe_v0 m0 a0 a1).length) d7], .int .i64 1]) rfl rfl (by kernel_rfl) (by kernel_rfl) (by kernel_rfl) rfl (markNetwork_any (AddPipe_m0 m0 a0 a1) A7 ((AddPipe_v0 m0 a0 a1).length) d7 w.heap.size 1 _ _ ho143 (by omega) (by omega) (by omega)) ?_
              rintro e w151 ⟨rfl, ho153, g152⟩
              have s154 := SG.of_grown s149 g152 (.inl rfl)
              refine ⟨_, rfl, s154, ?_⟩
              refine F.nx ?_
              have nb156 : Nb b2 (.slice A7 ((AddPipe_v0 m0 a0 a1).length) d7) := nb_app3 (v := .slice A7 ((AddPipe_v0 m0 a0 a1).length) d7) nb7_0 (Nat.lt_of_lt_of_le (blk_lt x7_0) (s149).size) (.inl ob_same)
              have nb157 : Nb b9 (.slice A7 ((AddPipe_v0 m0 a0 a1).length) d7) := nb_app3 (v := .slice A7 ((AddPipe_v0 m0 a0 a1).length) d7) nb7_1 (Nat.lt_of_lt_of_le (blk_lt x7_1) (s149).size) (.inl ob_same)
              have nb158 : Nb g5 (.slice A7 ((AddPipe_v0 m0 a0 a1).length) d7) := nb_app3 (v := .slice A7 ((AddPipe_v0 m0 a0 a1).length) d7) nb7_2 (Nat.lt_of_lt_of_le (blk_lt x7_2) (s149).size) (.inl ob_same)
              have nb159 : Nb b48 (.slice A7 ((AddPipe_v0 m0 a0 a1).length) d7) := nb_app3 (v := .slice A7 ((AddPipe_v0 m0 a0 a1).length) d7) nb7_3 (Nat.lt_of_lt_of_le (blk_lt x7_3) (s149).size) (.inl ob_same)
              have nb160 : Nb g7 (.slice A7 ((AddPipe_v0 m0 a0 a1).length) d7) := nb_app3 (v := .slice A7 ((AddPipe_v0 m0 a0 a1).length) d7) nb7_g (Nat.lt_of_lt_of_le (blk_lt hx7) (s149).size) (.inl ob_same)
              have sp161 := sp_app (v' := .slice A7 ((AddPipe_v0 m0 a0 a1).length) d7) sp7_0 rd147 ((s149).size) (.inl ob_same)
              have nr162 : NbR (.slice A7 ((AddPipe_v0 m0 a0 a1).length) d7) (.slice A31 n0 d32) := nbr_app (NbR.symm nr131) (fun j h => (World.ownsRow.lt ho142 j h).2) (.inl ob_same)
              have ho163 := own_grown ho142 g152 nr131
              have nr164 : NbR (.slice A7 ((AddPipe_v0 m0 a0 a1).length) d7) (.slice A83 n0 d84) := nbr_app (NbR.symm nr106) (fun j h => (World.ownsRow.lt ho144 j h).2) (.inl ob_same)
              have ho165 := own_grown ho144 g152 nr106
              refine F.as (v := .int .i64 (1 + 4 * (((AddPipe_v0 m0 a0 a1).length : Nat) : Int))) (h := ?_)
              refine F.endF [(0, .agg #[.int .i64 m0, .slice x0 n0 p0]), (1, .agg #[.int .i64 a1.id, .int .i64 a1.fr, .int .i64 a1.to, .int .i64 a1.sz]), (2, .pointer (some ⟨b2, 0, none⟩)), (3, .pointer (some ⟨b9, 0, none⟩)), (4, .bool false), (5, .int .i64 (szL 1048576 n0)), (6, .pointer (some ⟨g5, 0, none⟩)), (7, .bool (AddPipe_v1 m0 a0 a1)), (8, .pointer (some ⟨b48, 0, none⟩)), (9, .pointer (some ⟨g7, 0, none⟩)), (10, .bool (AddPipe_v1 m0 a0 a1)), (11, .int .i64 (1 + 4 * ((n0 : Nat) : Int))), (12, .int .i64 (1 + 4 * (((AddPipe_v0 m0 a0 a1).length : Nat) : Int))), (20, .bool false), (46, .bool false), (51, .bool false), (67, .bool false)] (fun U166 => ?_)
              have x7_0 := SG.blk s154 x7_0 nb7_0
              have x7_1 := SG.blk s154 x7_1 nb7_1
              have x7_2 := SG.blk s154 x7_2 nb7_2
              have x7_3 := SG.blk s154 x7_3 nb7_3
              have hx7 := SG.blk s154 hx7 nb7_g
              have c167 := (SG.belowR c146 s154 (fun kq e => (World.ownsRow.lt ho143 kq e).1))
              have rd168 := rd_sep rd147 s154 sp7_0
              refine h17 _ _ ?_
              as_aux_lemma =>
                refine wp_seq_k (fun K18 h18 => ?_)
                refine W.region_quiet [(0, false)] (by kernel_rfl) ?_
                refine F.as (v := .int .i64 1) (h := ?_)
                refine F.endF [(0, .agg #[.int .i64 m0, .slice x0 n0 p0]), (1, .agg #[.int .i64 a1.id, .int .i64 a1.fr, .int .i64 a1.to, .int .i64 a1.sz]), (2, .pointer (some ⟨b2, 0, none⟩)), (3, .pointer (some ⟨b9, 0, none⟩)), (4, .bool false), (5, .int .i64 (szL 1048576 n0)), (6, .pointer (some ⟨g5, 0, none⟩)), (7, .bool (AddPipe_v1 m0 a0 a1)), (8, .pointer (some ⟨b48, 0, none⟩)), (9, .pointer (some ⟨g7, 0, none⟩)), (10, .bool (AddPipe_v1 m0 a0 a1)), (11, .int .i64 (1 + 4 * ((n0 : Nat) : Int))), (12, .int .i64 (1 + 4 * (((AddPipe_v0 m0 a0 a1).length : Nat) : Int))), (13, .int .i64 1), (20, .bool false), (46, .bool false), (51, .bool false), (67, .bool false)] (fun U169 => ?_)
                refine h18 _ _ ?_
                refine wp_seq_k (fun K19 h19 => ?_)
                refine W.region_plain (row := none) [(0, false), (1, false), (2, true), (3, false)] (by kernel_rfl) ?_
                have s170 := SG.self w151 none
                refine F.q (v := .agg #[.int .i64 (AddPipe_m0 m0 a0 a1), .slice A7 ((AddPipe_v0 m0 a0 a1).length) d7]) (hr := (r_load2 rfl (ev_any (by kernel_rfl)) (by kernel_rfl) (by kernel_rfl) (sgS (blk_cell (j := 0) hx7 (by kernel_rfl)) (Option.some_ne_none _)) (sgS (blk_cell (j := 1) hx7 (by kernel_rfl)) (Option.some_ne_none _)))) (h := ?_)
                refine F.mv (v := .int .i64 1) (h := ?_)
                refine W.sc (vs := [.agg #[.int .i64 (AddPipe_m0 m0 a0 a1), .slice A7 ((AddPipe_v0 m0 a0 a1).length) d7], .int .i64 1]) rfl rfl (by kernel_rfl) (by kernel_rfl) (by kernel_rfl) rfl (heldNetwork_below (AddPipe_m0 m0 a0 a1) A7 ((AddPipe_v0 m0 a0 a1).length) d7 1 _ (own_rd ho153) (by omega) (by omega) (by omega)) ?_
                rintro e w172 ⟨rfl, b171⟩
                have s173 := SG.of_below s170 b171
                refine ⟨_, rfl, s173, ?_⟩
                refine F.nx ?_
                have ho174 := own_kept ho163 b171
                have ho175 := own_kept ho153 b171
                have ho176 := own_kept ho165 b171
                refine F.as (v := .int .i64 (1 + 4 * (((AddPipe_v0 m0 a0 a1).length : Nat) : Int))) (h := ?_)
                refine F.endF [(0, .agg #[.int .i64 m0, .slice x0 n0 p0]), (1, .agg #[.int .i64 a1.id, .int .i64 a1.fr, .int .i64 a1.to, .int .i64 a1.sz]), (2, .pointer (some ⟨b2, 0, none⟩)), (3, .pointer (some ⟨b9, 0, none⟩)), (4, .bool false), (5, .int .i64 (szL 1048576 n0)), (6, .pointer (some ⟨g5, 0, none⟩)), (7, .bool (AddPipe_v1 m0 a0 a1)), (8, .pointer (some ⟨b48, 0, none⟩)), (9, .pointer (some ⟨g7, 0, none⟩)), (10, .bool (AddPipe_v1 m0 a0 a1)), (11, .int .i64 (1 + 4 * ((n0 : Nat) : Int))), (12, .int .i64 (1 + 4 * (((AddPipe_v0 m0 a0 a1).length : Nat) : Int))), (13, .int .i64 (1 + 4 * (((AddPipe_v0 m0 a0 a1).length : Nat) : Int))), (20, .bool false), (46, .bool false), (51, .bool false), (67, .bool false)] (fun U177 => ?_)
                have x7_0 := SG.blk s173 x7_0 (Option.some_ne_none _)
                have x7_1 := SG.blk s173 x7_1 (Option.some_ne_none _)
                have x7_2 := SG.blk s173 x7_2 (Option.some_ne_none _)
                have x7_3 := SG.blk s173 x7_3 (Option.some_ne_none _)
                have hx7 := SG.blk s173 hx7 (Option.some_ne_none _)
                have c178 := (SG.belowR c167 s173 (fun kq e => by cases e))
                have rd179 := Rd.kept rd168 (SG.below s173)
                refine h19 _ _ ?_
                refine wp_seq_k (fun K20 h20 => ?_)
                refine wp_seq_k (fun K21 h21 => ?_)
                refine W.region_quiet [(0, false), (1, false)] (by kernel_rfl) ?_
                refine F.mv (v := .int .i64 (1 + 4 * (((AddPipe_v0 m0 a0 a1).length : Nat) : Int))) (h := ?_)
                refine F.q (v := .bool false) (hr := (r_lss (m := (1 + 4 * (((AddPipe_v0 m0 a0 a1).length : Nat) : Int))) (n := 0) rfl (ev_any (by kernel_rfl)) (ev_any (by kernel_rfl)) (decide_eq_false (by omega)))) (h := ?_)
                refine F.endF [(0, .agg #[.int .i64 m0, .slice x0 n0 p0]), (1, .agg #[.int .i64 a1.id, .int .i64 a1.fr, .int .i64 a1.to, .int .i64 a1.sz]), (2, .pointer (some ⟨b2, 0, none⟩)), (3, .pointer (some ⟨b9, 0, none⟩)), (4, .bool false), (5, .int .i64 (szL 1048576 n0)), (6, .pointer (some ⟨g5, 0, none⟩)), (7, .bool (AddPipe_v1 m0 a0 a1)), (8, .pointer (some ⟨b48, 0, none⟩)), (9, .pointer (some ⟨g7, 0, none⟩)), (10, .bool (AddPipe_v1 m0 a0 a1)), (11, .int .i64 (1 + 4 * ((n0 : Nat) : Int))), (12, .int .i64 (1 + 4 * (((AddPipe_v0 m0 a0 a1).length : Nat) : Int))), (13, .int .i64 (1 + 4 * (((AddPipe_v0 m0 a0 a1).length : Nat) : Int))), (20, .bool false), (46, .bool false), (51, .bool false), (67, .bool false), (75, .bool false)] (fun U180 => ?_)
                refine h21 _ _ ?_
                refine wp_cond_false (by kernel_rfl) ?_
                refine wp_skip ?_
                refine h20 _ _ ?_
                refine wp_seq_k (fun K22 h22 => ?_)
                refine wp_seq_k (fun K23 h23 => ?_)
                refine W.region_quiet [(0, false), (1, false), (2, false)] (by kernel_rfl) ?_
                refine F.mv (v := .int .i64 (1 + 4 * (((AddPipe_v0 m0 a0 a1).length : Nat) : Int))) (h := ?_)
                refine F.mv (v := .int .i64 (1 + 4 * (((AddPipe_v0 m0 a0 a1).length : Nat) : Int))) (h := ?_)
                refine F.q (v := .bool false) (hr := (r_neq (m := (1 + 4 * (((AddPipe_v0 m0 a0 a1).length : Nat) : Int))) (n := (1 + 4 * (((AddPipe_v0 m0 a0 a1).length : Nat) : Int))) rfl (ev_any (by kernel_rfl)) (ev_any (by kernel_rfl)) (decide_eq_false (by omega)))) (h := ?_)
                refine F.endF [(0, .agg #[.int .i64 m0, .slice x0 n0 p0]), (1, .agg #[.int .i64 a1.id, .int .i64 a1.fr, .int .i64 a1.to, .int .i64 a1.sz]), (2, .pointer (some ⟨b2, 0, none⟩)), (3, .pointer (some ⟨b9, 0, none⟩)), (4, .bool false), (5, .int .i64 (szL 1048576 n0)), (6, .pointer (some ⟨g5, 0, none⟩)), (7, .bool (AddPipe_v1 m0 a0 a1)), (8, .pointer (some ⟨b48, 0, none⟩)), (9, .pointer (some ⟨g7, 0, none⟩)), (10, .bool (AddPipe_v1 m0 a0 a1)), (11, .int .i64 (1 + 4 * ((n0 : Nat) : Int))), (12, .int .i64 (1 + 4 * (((AddPipe_v0 m0 a0 a1).length : Nat) : Int))), (13, .int .i64 (1 + 4 * (((AddPipe_v0 m0 a0 a1).length : Nat) : Int))), (20, .bool false), (46, .bool false), (51, .bool false), (67, .bool false), (75, .bool false), (78, .bool false)] (fun U181 => ?_)
                refine h23 _ _ ?_
                refine wp_cond_false (by kernel_rfl) ?_
                refine wp_skip ?_
                refine h22 _ _ ?_
                refine joinK (fun _ aa wl24 => ∃ (A24 : Option Addr) (d24 g24 : Nat) (U24 : Nat → Value), aa = ⟨(fr U24 [(0, .agg #[.int .i64 m0, .slice x0 n0 p0]), (1, .agg #[.int .i64 a1.id, .int .i64 a1.fr, .int .i64 a1.to, .int .i64 a1.sz]), (2, .pointer (some ⟨b2, 0, none⟩)), (3, .pointer (some ⟨b9, 0, none⟩)), (4, .bool false), (5, .int .i64 (szL 1048576 n0)), (6, .pointer (some ⟨g5, 0, none⟩)), (7, .bool (AddPipe_v1 m0 a0 a1)), (8, .pointer (some ⟨b48, 0, none⟩)), (9, .pointer (some ⟨g7, 0, none⟩)), (10, .bool (AddPipe_v1 m0 a0 a1)), (11, .int .i64 (1 + 4 * ((n0 : Nat) : Int))), (12, .int .i64 (1 + 4 * (((AddPipe_v0 m0 a0 a1).length : Nat) : Int))), (13, .int .i64 (1 + 4 * (((AddPipe_v0 m0 a0 a1).length : Nat) : Int))), (14, .pointer (some ⟨g24, 0, none⟩)), (15, .bool (AddPipe_v1 m0 a0 a1)), (20, .bool false), (46, .bool false), (51, .bool false), (67, .bool false), (75, .bool false), (78, .bool false)] 104 0).toArray, []⟩ ∧ (wl24.heap[b2]? = some (.cells #[.int .i64 m0, .slice x0 n0 p0] 24 (0, 0))) ∧ (wl24.heap[b9]? = some (.cells #[.int .i64 a1.id, .int .i64 a1.fr, .int .i64 a1.to, .int .i64 a1.sz] 47 (0, 0))) ∧ (wl24.heap[g5]? = some (.cells #[.int .i64 (AddPipe_m0 m0 a0 a1), .slice A5 ((AddPipe_v0 m0 a0 a1).length) d5] 29 (0, 0))) ∧ (wl24.heap[b48]? = some (.cells #[.int .i64 m0, .slice A31 n0 d32] 29 (0, 0))) ∧ (wl24.heap[g7]? = some (.cells #[.int .i64 (AddPipe_m0 m0 a0 a1), .slice A7 ((AddPipe_v0 m0 a0 a1).length) d7] 29 (0, 0))) ∧ (wl24.ownsRow w.heap.size 50 4 (.slice A31 n0 d32) n0 (mkPipe 1 n0)) ∧ (wl24.ownsRow w.heap.size 50 4 (.slice A7 ((AddPipe_v0 m0 a0 a1).length) d7) ((AddPipe_v0 m0 a0 a1).length) (mkPipe 1 ((AddPipe_v0 m0 a0 a1).length))) ∧ (wl24.ownsRow w.heap.size 50 4 (.slice A83 n0 d84) n0 (pipesV a0)) ∧ (Rd wl24 4 A5 ((AddPipe_v0 m0 a0 a1).length) (pipesV (AddPipe_v0 m0 a0 a1))) ∧ (wl24.heap[g24]? = some (.cells #[.int .i64 (AddPipe_m0 m0 a0 a1), .slice A24 ((AddPipe_v0 m0 a0 a1).length) d24] 29 (0, 0))) ∧ (w.heap.size ≤ g24) ∧ (wl24.ownsRow w.heap.size 50 4 (.slice A24 ((AddPipe_v0 m0 a0 a1).length) d24) ((AddPipe_v0 m0 a0 a1).length) (pipesV (AddPipe_v0 m0 a0 a1))) ∧ (b2 ≠ g24) ∧ (b9 ≠ g24) ∧ (g5 ≠ g24) ∧ (b48 ≠ g24) ∧ (g7 ≠ g24) ∧ (Nb g24 (.slice A31 n0 d32)) ∧ (Nb g24 (.slice A7 ((AddPipe_v0 m0 a0 a1).length) d7)) ∧ (Nb g24 (.slice A83 n0 d84)) ∧ (Nb b2 (.slice A24 ((AddPipe_v0 m0 a0 a1).length) d24)) ∧ (Nb b9 (.slice A24 ((AddPipe_v0 m0 a0 a1).length) d24)) ∧ (Nb g5 (.slice A24 ((AddPipe_v0 m0 a0 a1).length) d24)) ∧ (Nb b48 (.slice A24 ((AddPipe_v0 m0 a0 a1).length) d24)) ∧ (Nb g7 (.slice A24 ((AddPipe_v0 m0 a0 a1).length) d24)) ∧ (Nb g24 (.slice A24 ((AddPipe_v0 m0 a0 a1).length) d24)) ∧ (NbR (.slice A24 ((AddPipe_v0 m0 a0 a1).length) d24) (.slice A31 n0 d32)) ∧ (NbR (.slice A24 ((AddPipe_v0 m0 a0 a1).length) d24) (.slice A7 ((AddPipe_v0 m0 a0 a1).length) d7)) ∧ (NbR (.slice A24 ((AddPipe_v0 m0 a0 a1).length) d24) (.slice A83 n0 d84)) ∧ (Sp A5 ((AddPipe_v0 m0 a0 a1).length) (Value.ownBlock (.slice A24 ((AddPipe_v0 m0 a0 a1).length) d24))) ∧ (Below w.heap.size w wl24)) ?_ ?_
                · rintro am24 aa24 wl24 ⟨A24, d24, g24, U24, rfl, x24_0, x24_1, x24_2, x24_3, x24_4, o24_0, o24_1, o24_2, l24_0, hx24, hlo24, ho24, ne24_0, ne24_1, ne24_2, ne24_3, ne24_4, ng24_0, ng24_1, ng24_2, nb24_0, nb24_1, nb24_2, nb24_3, nb24_4, nb24_g, nr24_0, nr24_1, nr24_2, sp24_0, cb24⟩
                  refine wp_seq_k (fun K24 h24 => ?_)
                  refine wp_seq_k (fun K25 h25 => ?_)
                  refine W.region_plain (row := none) [(0, false), (1, false), (2, true), (3, false), (4, false), (5, false), (6, false), (7, false), (8, false)] (by kernel_rfl) ?_
                  have s182 := SG.self wl24 none
                  refine F.q (v := .agg #[.int .i64 (AddPipe_m0 m0 a0 a1), .slice A24 ((AddPipe_v0 m0 a0 a1).length) d24]) (hr := (r_load2 rfl (ev_any (by kernel_rfl)) (by kernel_rfl) (by kernel_rfl) (sgS (blk_cell (j := 0) hx24 (by kernel_rfl)) (Option.some_ne_none _)) (sgS (blk_cell (j := 1) hx24 (by kernel_rfl)) (Option.some_ne_none _)))) (h := ?_)
                  refine F.q (v := .agg #[.int .i64 (AddPipe_m0 m0 a0 a1), .slice A5 ((AddPipe_v0 m0 a0 a1).length) d5]) (hr := (r_load2 rfl (ev_any (by kernel_rfl)) (by kernel_rfl) (by kernel_rfl) (sgS (blk_cell (j := 0) x24_2 (by kernel_rfl)) (Option.some_ne_none _)) (sgS (blk_cell (j := 1) x24_2 (by kernel_rfl)) (Option.some_ne_none _)))) (h := ?_)
                  refine W.sc (vs := [.agg #[.int .i64 (AddPipe_m0 m0 a0 a1), .slice A24 ((AddPipe_v0 m0 a0 a1).length) d24], .agg #[.int .i64 (AddPipe_m0 m0 a0 a1), .slice A5 ((AddPipe_v0 m0 a0 a1).length) d5]]) rfl rfl (by kernel_rfl) (by kernel_rfl) (by kernel_rfl) rfl (eqNetwork_below (AddPipe_m0 m0 a0 a1) A24 A5 ((AddPipe_v0 m0 a0 a1).length) d24 d5 (AddPipe_v0 m0 a0 a1) _ (own_rd ho24) (Rd.kept l24_0 (SG.below s182)) (by omega)) ?_
                  rintro e w184 ⟨rfl, b183⟩
                  have s185 := SG.of_below s182 b183
                  refine ⟨_, rfl, s185, ?_⟩
                  refine F.nx ?_
                  have ho186 := own_kept o24_0 b183
                  have ho187 := own_kept o24_1 b183
                  have ho188 := own_kept o24_2 b183
                  have ho189 := own_kept ho24 b183
                  refine F.q (v := .bool false) (hr := (r_not (b := true) rfl (ev_any (by kernel_rfl)) rfl)) (h := ?_)
                  refine F.mv (v := .bool false) (h := ?_)
                  refine F.mv (v := .bool (AddPipe_v1 m0 a0 a1)) (h := ?_)
                  refine F.mv (v := .bool (AddPipe_v1 m0 a0 a1)) (h := ?_)
                  refine F.q (v := .bool false) (hr := (r_neqB (m := (AddPipe_v1 m0 a0 a1)) (n := (AddPipe_v1 m0 a0 a1)) rfl (ev_any (by kernel_rfl)) (ev_any (by kernel_rfl)) (by kernel_rfl) (by rw [show ((AddPipe_v1 m0 a0 a1) == (AddPipe_v1 m0 a0 a1)) = true from beq_iff_eq.2 rfl]; rfl))) (h := ?_)
                  refine F.q (v := .bool false) (hr := (r_pick (b := false) rfl (ev_any (by kernel_rfl)) (ev_any (by kernel_rfl)))) (h := ?_)
                  refine F.endF [(0, .agg #[.int .i64 m0, .slice x0 n0 p0]), (1, .agg #[.int .i64 a1.id, .int .i64 a1.fr, .int .i64 a1.to, .int .i64 a1.sz]), (2, .pointer (some ⟨b2, 0, none⟩)), (3, .pointer (some ⟨b9, 0, none⟩)), (4, .bool false), (5, .int .i64 (szL 1048576 n0)), (6, .pointer (some ⟨g5, 0, none⟩)), (7, .bool (AddPipe_v1 m0 a0 a1)), (8, .pointer (some ⟨b48, 0, none⟩)), (9, .pointer (some ⟨g7, 0, none⟩)), (10, .bool (AddPipe_v1 m0 a0 a1)), (11, .int .i64 (1 + 4 * ((n0 : Nat) : Int))), (12, .int .i64 (1 + 4 * (((AddPipe_v0 m0 a0 a1).length : Nat) : Int))), (13, .int .i64 (1 + 4 * (((AddPipe_v0 m0 a0 a1).length : Nat) : Int))), (14, .pointer (some ⟨g24, 0, none⟩)), (15, .bool (AddPipe_v1 m0 a0 a1)), (20, .bool false), (46, .bool false), (51, .bool false), (67, .bool false), (75, .bool false), (78, .bool false), (95, .bool false)] (fun U190 => ?_)
                  have x24_0 := SG.blk s185 x24_0 (Option.some_ne_none _)
                  have x24_1 := SG.blk s185 x24_1 (Option.some_ne_none _)
                  have x24_2 := SG.blk s185 x24_2 (Option.some_ne_none _)
                  have x24_3 := SG.blk s185 x24_3 (Option.some_ne_none _)
                  have x24_4 := SG.blk s185 x24_4 (Option.some_ne_none _)
                  have hx24 := SG.blk s185 hx24 (Option.some_ne_none _)
                  have c191 := (SG.belowR cb24 s185 (fun kq e => by cases e))
                  have rd192 := Rd.kept l24_0 (SG.below s185)
                  refine h25 _ _ ?_
                  as_aux_lemma =>
                    refine wp_cond_false (by kernel_rfl) ?_
                    refine wp_skip ?_
                    refine h24 _ _ ?_
                    refine wp_seq_k (fun K26 h26 => ?_)
                    refine W.region_quiet [(0, false)] (by kernel_rfl) ?_
                    refine F.as (v := .int .i64 1) (h := ?_)
                    refine F.endF [(0, .agg #[.int .i64 m0, .slice x0 n0 p0]), (1, .agg #[.int .i64 a1.id, .int .i64 a1.fr, .int .i64 a1.to, .int .i64 a1.sz]), (2, .pointer (some ⟨b2, 0, none⟩)), (3, .pointer (some ⟨b9, 0, none⟩)), (4, .bool false), (5, .int .i64 (szL 1048576 n0)), (6, .pointer (some ⟨g5, 0, none⟩)), (7, .bool (AddPipe_v1 m0 a0 a1)), (8, .pointer (some ⟨b48, 0, none⟩)), (9, .pointer (some ⟨g7, 0, none⟩)), (10, .bool (AddPipe_v1 m0 a0 a1)), (11, .int .i64 (1 + 4 * ((n0 : Nat) : Int))), (12, .int .i64 (1 + 4 * (((AddPipe_v0 m0 a0 a1).length : Nat) : Int))), (13, .int .i64 1), (14, .pointer (some ⟨g24, 0, none⟩)), (15, .bool (AddPipe_v1 m0 a0 a1)), (20, .bool false), (46, .bool false), (51, .bool false), (67, .bool false), (75, .bool false), (78, .bool false), (95, .bool false)] (fun U193 => ?_)
                    refine h26 _ _ ?_
                    refine wp_seq_k (fun K27 h27 => ?_)
                    refine W.region_plain (row := none) [(0, false), (1, false), (2, true), (3, false)] (by kernel_rfl) ?_
                    have s194 := SG.self w184 none
                    refine F.q (v := .agg #[.int .i64 (AddPipe_m0 m0 a0 a1), .slice A7 ((AddPipe_v0 m0 a0 a1).length) d7]) (hr := (r_load2 rfl (ev_any (by kernel_rfl)) (by kernel_rfl) (by kernel_rfl) (sgS (blk_cell (j := 0) x24_4 (by kernel_rfl)) (Option.some_ne_none _)) (sgS (blk_cell (j := 1) x24_4 (by kernel_rfl)) (Option.some_ne_none _)))) (h := ?_)
                    refine F.mv (v := .int .i64 1) (h := ?_)
                    refine W.sc (vs := [.agg #[.int .i64 (AddPipe_m0 m0 a0 a1), .slice A7 ((AddPipe_v0 m0 a0 a1).length) d7], .int .i64 1]) rfl rfl (by kernel_rfl) (by kernel_rfl) (by kernel_rfl) rfl (heldNetwork_below (AddPipe_m0 m0 a0 a1) A7 ((AddPipe_v0 m0 a0 a1).length) d7 1 _ (own_rd ho187) (by omega) (by omega) (by omega)) ?_
                    rintro e w196 ⟨rfl, b195⟩
                    have s197 := SG.of_below s194 b195
                    refine ⟨_, rfl, s197, ?_⟩
                    refine F.nx ?_
                    have ho198 := own_kept ho186 b195
                    have ho199 := own_kept ho187 b195
                    have ho200 := own_kept ho188 b195
                    have ho201 := own_kept ho189 b195
                    refine F.as (v := .int .i64 (1 + 4 * (((AddPipe_v0 m0 a0 a1).length : Nat) : Int))) (h := ?_)
                    refine F.endF [(0, .agg #[.int .i64 m0, .slice x0 n0 p0]), (1, .agg #[.int .i64 a1.id, .int .i64 a1.fr, .int .i64 a1.to, .int .i64 a1.sz]), (2, .pointer (some ⟨b2, 0, none⟩)), (3, .pointer (some ⟨b9, 0, none⟩)), (4, .bool false), (5, .int .i64 (szL 1048576 n0)), (6, .pointer (some ⟨g5, 0, none⟩)), (7, .bool (AddPipe_v1 m0 a0 a1)), (8, .pointer (some ⟨b48, 0, none⟩)), (9, .pointer (some ⟨g7, 0, none⟩)), (10, .bool (AddPipe_v1 m0 a0 a1)), (11, .int .i64 (1 + 4 * ((n0 : Nat) : Int))), (12, .int .i64 (1 + 4 * (((AddPipe_v0 m0 a0 a1).length : Nat) : Int))), (13, .int .i64 (1 + 4 * (((AddPipe_v0 m0 a0 a1).length : Nat) : Int))), (14, .pointer (some ⟨g24, 0, none⟩)), (15, .bool (AddPipe_v1 m0 a0 a1)), (20, .bool false), (46, .bool false), (51, .bool false), (67, .bool false), (75, .bool false), (78, .bool false), (95, .bool false)] (fun U202 => ?_)
                    have x24_0 := SG.blk s197 x24_0 (Option.some_ne_none _)
                    have x24_1 := SG.blk s197 x24_1 (Option.some_ne_none _)
                    have x24_2 := SG.blk s197 x24_2 (Option.some_ne_none _)
                    have x24_3 := SG.blk s197 x24_3 (Option.some_ne_none _)
                    have x24_4 := SG.blk s197 x24_4 (Option.some_ne_none _)
                    have hx24 := SG.blk s197 hx24 (Option.some_ne_none _)
                    have c203 := (SG.belowR c191 s197 (fun kq e => by cases e))
                    have rd204 := Rd.kept rd192 (SG.below s197)
                    refine h27 _ _ ?_
                    refine wp_seq_k (fun K28 h28 => ?_)
                    refine wp_seq_k (fun K29 h29 => ?_)
                    refine W.region_quiet [(0, false), (1, false)] (by kernel_rfl) ?_
                    refine F.mv (v := .int .i64 (1 + 4 * (((AddPipe_v0 m0 a0 a1).length : Nat) : Int))) (h := ?_)
                    refine F.q (v := .bool false) (hr := (r_lss (m := (1 + 4 * (((AddPipe_v0 m0 a0 a1).length : Nat) : Int))) (n := 0) rfl (ev_any (by kernel_rfl)) (ev_any (by kernel_rfl)) (decide_eq_false (by omega)))) (h := ?_)
                    refine F.endF [(0, .agg #[.int .i64 m0, .slice x0 n0 p0]), (1, .agg #[.int .i64 a1.id, .int .i64 a1.fr, .int .i64 a1.to, .int .i64 a1.sz]), (2, .pointer (some ⟨b2, 0, none⟩)), (3, .pointer (some ⟨b9, 0, none⟩)), (4, .bool false), (5, .int .i64 (szL 1048576 n0)), (6, .pointer (some ⟨g5, 0, none⟩)), (7, .bool (AddPipe_v1 m0 a0 a1)), (8, .pointer (some ⟨b48, 0, none⟩)), (9, .pointer (some ⟨g7, 0, none⟩)), (10, .bool (AddPipe_v1 m0 a0 a1)), (11, .int .i64 (1 + 4 * ((n0 : Nat) : Int))), (12, .int .i64 (1 + 4 * (((AddPipe_v0 m0 a0 a1).length : Nat) : Int))), (13, .int .i64 (1 + 4 * (((AddPipe_v0 m0 a0 a1).length : Nat) : Int))), (14, .pointer (some ⟨g24, 0, none⟩)), (15, .bool (AddPipe_v1 m0 a0 a1)), (20, .bool false), (46, .bool false), (51, .bool false), (67, .bool false), (75, .bool false), (78, .bool false), (95, .bool false), (100, .bool false)] (fun U205 => ?_)
                    refine h29 _ _ ?_
                    refine wp_cond_false (by kernel_rfl) ?_
                    refine wp_skip ?_
                    refine h28 _ _ ?_
                    refine wp_seq_k (fun K30 h30 => ?_)
                    refine wp_seq_k (fun K31 h31 => ?_)
                    refine W.region_quiet [(0, false), (1, false), (2, false)] (by kernel_rfl) ?_
                    refine F.mv (v := .int .i64 (1 + 4 * (((AddPipe_v0 m0 a0 a1).length : Nat) : Int))) (h := ?_)
                    refine F.mv (v := .int .i64 (1 + 4 * (((AddPipe_v0 m0 a0 a1).length : Nat) : Int))) (h := ?_)
                    refine F.q (v := .bool false) (hr := (r_neq (m := (1 + 4 * (((AddPipe_v0 m0 a0 a1).length : Nat) : Int))) (n := (1 + 4 * (((AddPipe_v0 m0 a0 a1).length : Nat) : Int))) rfl (ev_any (by kernel_rfl)) (ev_any (by kernel_rfl)) (decide_eq_false (by omega)))) (h := ?_)
                    refine F.endF [(0, .agg #[.int .i64 m0, .slice x0 n0 p0]), (1, .agg #[.int .i64 a1.id, .int .i64 a1.fr, .int .i64 a1.to, .int .i64 a1.sz]), (2, .pointer (some ⟨b2, 0, none⟩)), (3, .pointer (some ⟨b9, 0, none⟩)), (4, .bool false), (5, .int .i64 (szL 1048576 n0)), (6, .pointer (some ⟨g5, 0, none⟩)), (7, .bool (AddPipe_v1 m0 a0 a1)), (8, .pointer (some ⟨b48, 0, none⟩)), (9, .pointer (some ⟨g7, 0, none⟩)), (10, .bool (AddPipe_v1 m0 a0 a1)), (11, .int .i64 (1 + 4 * ((n0 : Nat) : Int))), (12, .int .i64 (1 + 4 * (((AddPipe_v0 m0 a0 a1).length : Nat) : Int))), (13, .int .i64 (1 + 4 * (((AddPipe_v0 m0 a0 a1).length : Nat) : Int))), (14, .pointer (some ⟨g24, 0, none⟩)), (15, .bool (AddPipe_v1 m0 a0 a1)), (20, .bool false), (46, .bool false), (51, .bool false), (67, .bool false), (75, .bool false), (78, .bool false), (95, .bool false), (100, .bool false), (103, .bool false)] (fun U206 => ?_)
                    refine h31 _ _ ?_
                    refine wp_cond_false (by kernel_rfl) ?_
                    refine wp_skip ?_
                    refine h30 _ _ ?_
                    refine wp_seq_k (fun K32 h32 => ?_)
                    refine W.region_quiet [(0, false)] (by kernel_rfl) ?_
                    refine F.as (v := .bool true) (h := ?_)
                    refine F.endF [(0, .agg #[.int .i64 m0, .slice x0 n0 p0]), (1, .agg #[.int .i64 a1.id, .int .i64 a1.fr, .int .i64 a1.to, .int .i64 a1.sz]), (2, .pointer (some ⟨b2, 0, none⟩)), (3, .pointer (some ⟨b9, 0, none⟩)), (4, .bool true), (5, .int .i64 (szL 1048576 n0)), (6, .pointer (some ⟨g5, 0, none⟩)), (7, .bool (AddPipe_v1 m0 a0 a1)), (8, .pointer (some ⟨b48, 0, none⟩)), (9, .pointer (some ⟨g7, 0, none⟩)), (10, .bool (AddPipe_v1 m0 a0 a1)), (11, .int .i64 (1 + 4 * ((n0 : Nat) : Int))), (12, .int .i64 (1 + 4 * (((AddPipe_v0 m0 a0 a1).length : Nat) : Int))), (13, .int .i64 (1 + 4 * (((AddPipe_v0 m0 a0 a1).length : Nat) : Int))), (14, .pointer (some ⟨g24, 0, none⟩)), (15, .bool (AddPipe_v1 m0 a0 a1)), (20, .bool false), (46, .bool false), (51, .bool false), (67, .bool false), (75, .bool false), (78, .bool false), (95, .bool false), (100, .bool false), (103, .bool false)] (fun U207 => ?_)
                    refine h32 _ _ ?_
                    refine wp_ret ?_
                    try simp only [Exit.then]
                    refine ret1 (v := .bool true) rfl (by kernel_rfl) ?_
                    exact ⟨rfl, c203⟩
                intro K33 h33
                refine W.region_sch (row := none) (Sch.app [(0, false), (2, false)] (.br 1 8 (Sch.app [] (.br 3 8 (Sch.app [] (.br 4 8 (Sch.of [(5, false), (6, false), (7, false), (8, true), (9, true), (10, false)]) (Sch.of [(4, true), (5, false), (6, false), (7, false), (9, true), (10, false)]))) (Sch.of [(3, true), (4, true), (5, false), (6, false), (7, false), (9, true), (10, false)]))) (Sch.of [(1, true), (3, true), (4, true), (5, false), (6, false), (7, false), (9, true), (10, false)]))) (by kernel_rfl) (by kernel_rfl) (fun _ d _ _ _ h => by cases d <;> exact h) (by kernel_rfl) (fun w208 e209 s210 => ?_)
                have ho211 := own_heap ho174 e209
                have ho212 := own_heap ho175 e209
                have ho213 := own_heap ho176 e209
                refine F.q (v := .agg #[.int .i64 m0, .slice x0 n0 p0]) (hr := (r_load2 rfl (ev_any (by kernel_rfl)) (by kernel_rfl) (by kernel_rfl) (sgS (blk_cell (j := 0) x7_0 (by kernel_rfl)) (Option.some_ne_none _)) (sgS (blk_cell (j := 1) x7_0 (by kernel_rfl)) (Option.some_ne_none _)))) (h := ?_)
                refine F.q (v := .agg #[.int .i64 a1.id, .int .i64 a1.fr, .int .i64 a1.to, .int .i64 a1.sz]) (hr := (r_load4 rfl (ev_any (by kernel_rfl)) (by kernel_rfl) (by kernel_rfl) (sgS (blk_cell (j := 0) x7_1 (by kernel_rfl)) (Option.some_ne_none _)) (sgS (blk_cell (j := 1) x7_1 (by kernel_rfl)) (Option.some_ne_none _)) (sgS (blk_cell (j := 2) x7_1 (by kernel_rfl)) (Option.some_ne_none _)) (sgS (blk_cell (j := 3) x7_1 (by kernel_rfl)) (Option.some_ne_none _)))) (h := ?_)
                refine W.sbr ?_ ?_
                · have lb220 := (Nat.lt_of_lt_of_le (blk_lt x7_0) (s210).size)
                  have lb221 := (Nat.lt_of_lt_of_le (blk_lt x7_1) (s210).size)
                  have lb222 := (Nat.lt_of_lt_of_le (blk_lt x7_2) (s210).size)
                  have lb223 := (Nat.lt_of_lt_of_le (blk_lt x7_3) (s210).size)
                  have lb224 := (Nat.lt_of_lt_of_le (blk_lt hx7) (s210).size)
                  have zl225 := (s210).size
                  have z218 := ((SG.belowR c178 s210 (fun kq e => by cases e))).size
                  refine W.sc (vs := [.agg #[.int .i64 m0, .slice x0 n0 p0]]) rfl rfl (by kernel_rfl) (by kernel_rfl) (by kernel_rfl) rfl (toNetwork_any m0 x0 n0 p0 a0 _ (Rd.kept h0 (SG.belowR c178 s210 (fun kq e => by cases e))) (by omega)) ?_
                  rintro e w227 ⟨A214, d215, rfl, ho216, b226⟩
                  have s228 := SG.of_below s210 b226
                  refine ⟨_, rfl, s228, ?_⟩
                  refine F.nx ?_
                  have ho229 := own_kept ho211 b226
                  have ho230 := own_kept ho212 b226
                  have ho231 := own_kept ho213 b226
                  have ho217 := own_base (base' := w.heap.size) ho216 z218
                  have hlr219 := rd_pipes_len (own_rd ho217)
                  have nb232 : Nb b2 (.slice A214 n0 d215) := nb_lo ho216 lb220
                  have nb233 : Nb b9 (.slice A214 n0 d215) := nb_lo ho216 lb221
                  have nb234 : Nb g5 (.slice A214 n0 d215) := nb_lo ho216 lb222
                  have nb235 : Nb b48 (.slice A214 n0 d215) := nb_lo ho216 lb223
                  have nb236 : Nb g7 (.slice A214 n0 d215) := nb_lo ho216 lb224
                  have nr237 : NbR (.slice A214 n0 d215) (.slice A31 n0 d32) := fun j e1 e2 => by have h8 := (World.ownsRow.lt ho216 j e1).1; have h9 := (World.ownsRow.lt ho211 j e2).2; omega
                  have nr238 : NbR (.slice A214 n0 d215) (.slice A7 ((AddPipe_v0 m0 a0 a1).length) d7) := fun j e1 e2 => by have h8 := (World.ownsRow.lt ho216 j e1).1; have h9 := (World.ownsRow.lt ho212 j e2).2; omega
                  have nr239 : NbR (.slice A214 n0 d215) (.slice A83 n0 d84) := fun j e1 e2 => by have h8 := (World.ownsRow.lt ho216 j e1).1; have h9 := (World.ownsRow.lt ho213 j e2).2; omega
                  have sp240 : Sp A5 ((AddPipe_v0 m0 a0 a1).length) (Value.ownBlock (.slice A214 n0 d215)) := sp_row rd179 ho216 (by omega)
                  refine W.sbr ?_ ?_
                  · refine W.sc (vs := [.agg #[.int .i64 a1.id, .int .i64 a1.fr, .int .i64 a1.to, .int .i64 a1.sz]]) rfl rfl (by kernel_rfl) (by kernel_rfl) (by kernel_rfl) rfl (toPipe_any a1 _) ?_
                    rintro e w242 ⟨rfl, b241⟩
                    have s243 := SG.of_below s228 b241
                    refine ⟨_, rfl, s243, ?_⟩
                    refine F.nx ?_
                    have ho244 := own_kept ho229 b241
                    have ho245 := own_kept ho230 b241
                    have ho246 := own_kept ho231 b241
                    have ho247 := own_kept ho217 b241
                    refine W.sbr ?_ ?_
                    · have lb254 := (Nat.lt_of_lt_of_le (blk_lt x7_0) (s243).size)
                      have lb255 := (Nat.lt_of_lt_of_le (blk_lt x7_1) (s243).size)
                      have lb256 := (Nat.lt_of_lt_of_le (blk_lt x7_2) (s243).size)
                      have lb257 := (Nat.lt_of_lt_of_le (blk_lt x7_3) (s243).size)
                      have lb258 := (Nat.lt_of_lt_of_le (blk_lt hx7) (s243).size)
                      have zl259 := (s243).size
                      have z252 := ((SG.belowR c178 s243 (fun kq e => by cases e))).size
                      refine W.sc (vs := [.agg #[.int .i64 m0, .slice A214 n0 d215], .agg #[.int .i64 a1.id, .int .i64 a1.fr, .int .i64 a1.to, .int .i64 a1.sz]]) rfl rfl (by kernel_rfl) (by kernel_rfl) (by kernel_rfl) rfl (AddPipe_impl m0 A214 n0 d215 a0 a1 _ (own_rd ho247) (by omega) (own_fm ho247)) ?_
                      rintro e w261 ⟨A248, d249, rfl, ho250, b260⟩
                      have s262 := SG.of_below s243 b260
                      refine ⟨_, rfl, s262, ?_⟩
                      refine F.nx ?_
                      have ho263 := own_kept ho244 b260
                      have ho264 := own_kept ho245 b260
                      have ho265 := own_kept ho246 b260
                      have ho266 := own_kept ho247 b260
                      have ho251 := own_base (base' := w.heap.size) ho250 z252
                      have hlr253 := rd_pipes_len (own_rd ho251)
                      have nb267 : Nb b2 (.slice A248 ((AddPipe_v0 m0 a0 a1).length) d249) := nb_lo ho250 lb254
                      have nb268 : Nb b9 (.slice A248 ((AddPipe_v0 m0 a0 a1).length) d249) := nb_lo ho250 lb255
                      have nb269 : Nb g5 (.slice A248 ((AddPipe_v0 m0 a0 a1).length) d249) := nb_lo ho250 lb256
                      have nb270 : Nb b48 (.slice A248 ((AddPipe_v0 m0 a0 a1).length) d249) := nb_lo ho250 lb257
                      have nb271 : Nb g7 (.slice A248 ((AddPipe_v0 m0 a0 a1).length) d249) := nb_lo ho250 lb258
                      have nr272 : NbR (.slice A248 ((AddPipe_v0 m0 a0 a1).length) d249) (.slice A31 n0 d32) := fun j e1 e2 => by have h8 := (World.ownsRow.lt ho250 j e1).1; have h9 := (World.ownsRow.lt ho244 j e2).2; omega
                      have nr273 : NbR (.slice A248 ((AddPipe_v0 m0 a0 a1).length) d249) (.slice A7 ((AddPipe_v0 m0 a0 a1).length) d7) := fun j e1 e2 => by have h8 := (World.ownsRow.lt ho250 j e1).1; have h9 := (World.ownsRow.lt ho245 j e2).2; omega
                      have nr274 : NbR (.slice A248 ((AddPipe_v0 m0 a0 a1).length) d249) (.slice A83 n0 d84) := fun j e1 e2 => by have h8 := (World.ownsRow.lt ho250 j e1).1; have h9 := (World.ownsRow.lt ho246 j e2).2; omega
                      have nr275 : NbR (.slice A248 ((AddPipe_v0 m0 a0 a1).length) d249) (.slice A214 n0 d215) := fun j e1 e2 => by have h8 := (World.ownsRow.lt ho250 j e1).1; have h9 := (World.ownsRow.lt ho247 j e2).2; omega
                      have sp276 : Sp A5 ((AddPipe_v0 m0 a0 a1).length) (Value.ownBlock (.slice A248 ((AddPipe_v0 m0 a0 a1).length) d249)) := sp_row rd179 ho250 (by omega)
                      refine F.mv (v := .tuple #[.agg #[.int .i64 (AddPipe_m0 m0 a0 a1), .slice A248 ((AddPipe_v0 m0 a0 a1).length) d249], .bool (AddPipe_v1 m0 a0 a1)]) (h := ?_)
                      refine F.q (v := .agg #[.int .i64 (AddPipe_m0 m0 a0 a1), .slice A248 ((AddPipe_v0 m0 a0 a1).length) d249]) (hr := (r_extract (vs := #[.agg #[.int .i64 (AddPipe_m0 m0 a0 a1), .slice A248 ((AddPipe_v0 m0 a0 a1).length) d249], .bool (AddPipe_v1 m0 a0 a1)]) rfl (ev_any (by kernel_rfl)) (by kernel_rfl))) (h := ?_)
                      refine F.q (v := .bool (AddPipe_v1 m0 a0 a1)) (hr := (r_extract (vs := #[.agg #[.int .i64 (AddPipe_m0 m0 a0 a1), .slice A248 ((AddPipe_v0 m0 a0 a1).length) d249], .bool (AddPipe_v1 m0 a0 a1)]) rfl (ev_any (by kernel_rfl)) (by kernel_rfl))) (h := ?_)
                      refine W.sn (fun b => .pointer (some ⟨b, 0, none⟩)) #[.int .i64 0, .slice none 0 0] 29 s262 rfl (by kernel_rfl) rfl (fun _ => by kernel_rfl) (fun b277 w278 hb279 k280 x281 s282 => ?_)
                      refine F.nx ?_
                      have lo283 : w.heap.size ≤ b277 := Nat.le_trans ((SG.belowR c178 s262 (fun kq e => by cases e))).size (Nat.le_of_eq hb279)
                      have sp284 : Sp A5 ((AddPipe_v0 m0 a0 a1).length) (some b277) := sp_new rd179 (by have := (s262).size; have := hb279; omega)
                      have ne285 : b2 ≠ b277 := Nat.ne_of_lt (Nat.lt_of_lt_of_eq (Nat.lt_of_lt_of_le (blk_lt x7_0) (s262).size) hb279)
                      have ne286 : b9 ≠ b277 := Nat.ne_of_lt (Nat.lt_of_lt_of_eq (Nat.lt_of_lt_of_le (blk_lt x7_1) (s262).size) hb279)
                      have ne287 : g5 ≠ b277 := Nat.ne_of_lt (Nat.lt_of_lt_of_eq (Nat.lt_of_lt_of_le (blk_lt x7_2) (s262).size) hb279)
                      have ne288 : b48 ≠ b277 := Nat.ne_of_lt (Nat.lt_of_lt_of_eq (Nat.lt_of_lt_of_le (blk_lt x7_3) (s262).size) hb279)
                      have ne289 : g7 ≠ b277 := Nat.ne_of_lt (Nat.lt_of_lt_of_eq (Nat.lt_of_lt_of_le (blk_lt hx7) (s262).size) hb279)
                      have nb290 : Nb b277 (.slice A31 n0 d32) := nb_hi ho263 (Nat.le_of_eq hb279)
                      have nb291 : Nb b277 (.slice A7 ((AddPipe_v0 m0 a0 a1).length) d7) := nb_hi ho264 (Nat.le_of_eq hb279)
                      have nb292 : Nb b277 (.slice A83 n0 d84) := nb_hi ho265 (Nat.le_of_eq hb279)
                      have nb293 : Nb b277 (.slice A214 n0 d215) := nb_hi ho266 (Nat.le_of_eq hb279)
                      have nb294 : Nb b277 (.slice A248 ((AddPipe_v0 m0 a0 a1).length) d249) := nb_hi ho251 (Nat.le_of_eq hb279)
                      have ho295 := own_kept ho263 k280
                      have ho296 := own_kept ho264 k280
                      have ho297 := own_kept ho265 k280
                      have ho298 := own_kept ho266 k280
                      have ho299 := own_kept ho251 k280
                      refine W.ss (v := .agg #[.int .i64 (AddPipe_m0 m0 a0 a1), .slice A248 ((AddPipe_v0 m0 a0 a1).length) d249]) (j := 0) (news := [.int .i64 (AddPipe_m0 m0 a0 a1), .slice A248 ((AddPipe_v0 m0 a0 a1).length) d249]) (cs' := #[.int .i64 (AddPipe_m0 m0 a0 a1), .slice A248 ((AddPipe_v0 m0 a0 a1).length) d249]) s282 rfl (by kernel_rfl) rfl rfl (by kernel_rfl) (by kernel_rfl) x281 (by kernel_rfl) (by kernel_rfl) (by simp) (by kernel_rfl) (by kernel_rfl) (.inr (Nat.le_trans (s262).size (Nat.le_of_eq hb279))) (fun w300 g301 x302 s303 => ?_)
                      have ho304 := own_grown ho295 g301 (fun j e1 e2 => by cases e2; exact nb290 e1.symm)
                      have ho305 := own_grown ho296 g301 (fun j e1 e2 => by cases e2; exact nb291 e1.symm)
                      have ho306 := own_grown ho297 g301 (fun j e1 e2 => by cases e2; exact nb292 e1.symm)
                      have ho307 := own_grown ho298 g301 (fun j e1 e2 => by cases e2; exact nb293 e1.symm)
                      have ho308 := own_grown ho299 g301 (fun j e1 e2 => by cases e2; exact nb294 e1.symm)
                      refine F.as (v := .bool (AddPipe_v1 m0 a0 a1)) (h := ?_)
                      refine F.endF [(0, .agg #[.int .i64 m0, .slice x0 n0 p0]), (1, .agg #[.int .i64 a1.id, .int .i64 a1.fr, .int .i64 a1.to, .int .i64 a1.sz]), (2, .pointer (some ⟨b2, 0, none⟩)), (3, .pointer (some ⟨b9, 0, none⟩)), (4, .bool false), (5, .int .i64 (szL 1048576 n0)), (6, .pointer (some ⟨g5, 0, none⟩)), (7, .bool (AddPipe_v1 m0 a0 a1)), (8, .pointer (some ⟨b48, 0, none⟩)), (9, .pointer (some ⟨g7, 0, none⟩)), (10, .bool (AddPipe_v1 m0 a0 a1)), (11, .int .i64 (1 + 4 * ((n0 : Nat) : Int))), (12, .int .i64 (1 + 4 * (((AddPipe_v0 m0 a0 a1).length : Nat) : Int))), (13, .int .i64 (1 + 4 * (((AddPipe_v0 m0 a0 a1).length : Nat) : Int))), (14, .pointer (some ⟨b277, 0, none⟩)), (15, .bool (AddPipe_v1 m0 a0 a1)), (20, .bool false), (46, .bool false), (51, .bool false), (67, .bool false), (75, .bool false), (78, .bool false)] (fun U309 => ?_)
                      have x7_0 := SG.blk s303 x7_0 (Option.some_ne_none _)
                      have x7_1 := SG.blk s303 x7_1 (Option.some_ne_none _)
                      have x7_2 := SG.blk s303 x7_2 (Option.some_ne_none _)
                      have x7_3 := SG.blk s303 x7_3 (Option.some_ne_none _)
                      have hx7 := SG.blk s303 hx7 (Option.some_ne_none _)
                      have c310 := (SG.belowR c178 s303 (fun kq e => by cases e))
                      have rd311 := Rd.kept rd179 (SG.below s303)
                      exact h33 0 _ _ ⟨A248, d249, b277, (fun iU9 => lk [(0, .agg #[.int .i64 m0, .slice x0 n0 p0]), (1, .agg #[.int .i64 a1.id, .int .i64 a1.fr, .int .i64 a1.to, .int .i64 a1.sz]), (2, .pointer (some ⟨b2, 0, none⟩)), (3, .pointer (some ⟨b9, 0, none⟩)), (4, .bool false), (5, .int .i64 (szL 1048576 n0)), (6, .pointer (some ⟨g5, 0, none⟩)), (7, .bool (AddPipe_v1 m0 a0 a1)), (8, .pointer (some ⟨b48, 0, none⟩)), (9, .pointer (some ⟨g7, 0, none⟩)), (10, .bool (AddPipe_v1 m0 a0 a1)), (11, .int .i64 (1 + 4 * ((n0 : Nat) : Int))), (12, .int .i64 (1 + 4 * (((AddPipe_v0 m0 a0 a1).length : Nat) : Int))), (13, .int .i64 (1 + 4 * (((AddPipe_v0 m0 a0 a1).length : Nat) : Int))), (14, .pointer (some ⟨b277, 0, none⟩)), (15, .bool (AddPipe_v1 m0 a0 a1)), (20, .bool false), (46, .bool false), (51, .bool false), (67, .bool false), (75, .bool false), (78, .bool false)] iU9 (U309 iU9)), (by kernel_rfl), x7_0, x7_1, x7_2, x7_3, hx7, ho304, ho305, ho306, rd311, x302, lo283, ho308, ne285, ne286, ne287, ne288, ne289, nb290, nb291, nb292, nb267, nb268, nb269, nb270, nb271, nb294, nr272, nr273, nr274, sp276, c310⟩
                    · refine W.sn (fun b => .pointer (some ⟨b, 0, none⟩)) #[.int .i64 0, .slice none 0 0] 29 s243 rfl (by kernel_rfl) rfl (fun _ => by kernel_rfl) (fun b312 w313 hb314 k315 x316 s317 => ?_)
                      refine F.nx ?_
                      have lo318 : w.heap.size ≤ b312 := Nat.le_trans ((SG.belowR c178 s243 (fun kq e => by cases e))).size (Nat.le_of_eq hb314)
                      have sp319 : Sp A5 ((AddPipe_v0 m0 a0 a1).length) (some b312) := sp_new rd179 (by have := (s243).size; have := hb314; omega)
                      have ne320 : b2 ≠ b312 := Nat.ne_of_lt (Nat.lt_of_lt_of_eq (Nat.lt_of_lt_of_le (blk_lt x7_0) (s243).size) hb314)
                      have ne321 : b9 ≠ b312 := Nat.ne_of_lt (Nat.lt_of_lt_of_eq (Nat.lt_of_lt_of_le (blk_lt x7_1) (s243).size) hb314)
                      have ne322 : g5 ≠ b312 := Nat.ne_of_lt (Nat.lt_of_lt_of_eq (Nat.lt_of_lt_of_le (blk_lt x7_2) (s243).size) hb314)
                      have ne323 : b48 ≠ b312 := Nat.ne_of_lt (Nat.lt_of_lt_of_eq (Nat.lt_of_lt_of_le (blk_lt x7_3) (s243).size) hb314)
                      have ne324 : g7 ≠ b312 := Nat.ne_of_lt (Nat.lt_of_lt_of_eq (Nat.lt_of_lt_of_le (blk_lt hx7) (s243).size) hb314)
                      have nb325 : Nb b312 (.slice A31 n0 d32) := nb_hi ho244 (Nat.le_of_eq hb314)
                      have nb326 : Nb b312 (.slice A7 ((AddPipe_v0 m0 a0 a1).length) d7) := nb_hi ho245 (Nat.le_of_eq hb314)
                      have nb327 : Nb b312 (.slice A83 n0 d84) := nb_hi ho246 (Nat.le_of_eq hb314)
                      have nb328 : Nb b312 (.slice A214 n0 d215) := nb_hi ho247 (Nat.le_of_eq hb314)
                      have ho329 := own_kept ho244 k315
                      have ho330 := own_kept ho245 k315
                      have ho331 := own_kept ho246 k315
                      have ho332 := own_kept ho247 k315
                      have lb339 := (Nat.lt_of_lt_of_le (blk_lt x7_0) (s317).size)
                      have lb340 := (Nat.lt_of_lt_of_le (blk_lt x7_1) (s317).size)
                      have lb341 := (Nat.lt_of_lt_of_le (blk_lt x7_2) (s317).size)
                      have lb342 := (Nat.lt_of_lt_of_le (blk_lt x7_3) (s317).size)
                      have lb343 := (Nat.lt_of_lt_of_le (blk_lt hx7) (s317).size)
                      have lb344 := (blk_lt x316)
                      have zl345 := (s317).size
                      have z337 := ((SG.belowR c178 s317 (fun kq e => by cases e))).size
                      refine W.sc (vs := [.agg #[.int .i64 m0, .slice A214 n0 d215], .agg #[.int .i64 a1.id, .int .i64 a1.fr, .int .i64 a1.to, .int .i64 a1.sz]]) rfl rfl (by kernel_rfl) (by kernel_rfl) (by kernel_rfl) rfl (AddPipe_impl m0 A214 n0 d215 a0 a1 _ (own_rd ho332) (by omega) (own_fm ho332)) ?_
                      rintro e w347 ⟨A333, d334, rfl, ho335, b346⟩
                      have s348 := SG.of_below s317 b346
                      refine ⟨_, rfl, s348, ?_⟩
                      refine F.nx ?_
                      have x316 := (b346.block _ (blk_lt x316)).trans x316
                      have ho349 := own_kept ho329 b346
                      have ho350 := own_kept ho330 b346
                      have ho351 := own_kept ho331 b346
                      have ho352 := own_kept ho332 b346
                      have ho336 := own_base (base' := w.heap.size) ho335 z337
                      have hlr338 := rd_pipes_len (own_rd ho336)
                      have nb353 : Nb b2 (.slice A333 ((AddPipe_v0 m0 a0 a1).length) d334) := nb_lo ho335 lb339
                      have nb354 : Nb b9 (.slice A333 ((AddPipe_v0 m0 a0 a1).length) d334) := nb_lo ho335 lb340
                      have nb355 : Nb g5 (.slice A333 ((AddPipe_v0 m0 a0 a1).length) d334) := nb_lo ho335 lb341
                      have nb356 : Nb b48 (.slice A333 ((AddPipe_v0 m0 a0 a1).length) d334) := nb_lo ho335 lb342
                      have nb357 : Nb g7 (.slice A333 ((AddPipe_v0 m0 a0 a1).length) d334) := nb_lo ho335 lb343
                      have nb358 : Nb b312 (.slice A333 ((AddPipe_v0 m0 a0 a1).length) d334) := nb_lo ho335 lb344
                      have nr359 : NbR (.slice A333 ((AddPipe_v0 m0 a0 a1).length) d334) (.slice A31 n0 d32) := fun j e1 e2 => by have h8 := (World.ownsRow.lt ho335 j e1).1; have h9 := (World.ownsRow.lt ho329 j e2).2; omega
                      have nr360 : NbR (.slice A333 ((AddPipe_v0 m0 a0 a1).length) d334) (.slice A7 ((AddPipe_v0 m0 a0 a1).length) d7) := fun j e1 e2 => by have h8 := (World.ownsRow.lt ho335 j e1).1; have h9 := (World.ownsRow.lt ho330 j e2).2; omega
                      have nr361 : NbR (.slice A333 ((AddPipe_v0 m0 a0 a1).length) d334) (.slice A83 n0 d84) := fun j e1 e2 => by have h8 := (World.ownsRow.lt ho335 j e1).1; have h9 := (World.ownsRow.lt ho331 j e2).2; omega
                      have nr362 : NbR (.slice A333 ((AddPipe_v0 m0 a0 a1).length) d334) (.slice A214 n0 d215) := fun j e1 e2 => by have h8 := (World.ownsRow.lt ho335 j e1).1; have h9 := (World.ownsRow.lt ho332 j e2).2; omega
                      have sp363 : Sp A5 ((AddPipe_v0 m0 a0 a1).length) (Value.ownBlock (.slice A333 ((AddPipe_v0 m0 a0 a1).length) d334)) := sp_row rd179 ho335 (by omega)
                      refine F.mv (v := .tuple #[.agg #[.int .i64 (AddPipe_m0 m0 a0 a1), .slice A333 ((AddPipe_v0 m0 a0 a1).length) d334], .bool (AddPipe_v1 m0 a0 a1)]) (h := ?_)
                      refine F.q (v := .agg #[.int .i64 (AddPipe_m0 m0 a0 a1), .slice A333 ((AddPipe_v0 m0 a0 a1).length) d334]) (hr := (r_extract (vs := #[.agg #[.int .i64 (AddPipe_m0 m0 a0 a1), .slice A333 ((AddPipe_v0 m0 a0 a1).length) d334], .bool (AddPipe_v1 m0 a0 a1)]) rfl (ev_any (by kernel_rfl)) (by kernel_rfl))) (h := ?_)
                      refine F.q (v := .bool (AddPipe_v1 m0 a0 a1)) (hr := (r_extract (vs := #[.agg #[.int .i64 (AddPipe_m0 m0 a0 a1), .slice A333 ((AddPipe_v0 m0 a0 a1).length) d334], .bool (AddPipe_v1 m0 a0 a1)]) rfl (ev_any (by kernel_rfl)) (by kernel_rfl))) (h := ?_)
                      refine W.ss (v := .agg #[.int .i64 (AddPipe_m0 m0 a0 a1), .slice A333 ((AddPipe_v0 m0 a0 a1).length) d334]) (j := 0) (news := [.int .i64 (AddPipe_m0 m0 a0 a1), .slice A333 ((AddPipe_v0 m0 a0 a1).length) d334]) (cs' := #[.int .i64 (AddPipe_m0 m0 a0 a1), .slice A333 ((AddPipe_v0 m0 a0 a1).length) d334]) s348 rfl (by kernel_rfl) rfl rfl (by kernel_rfl) (by kernel_rfl) x316 (by kernel_rfl) (by kernel_rfl) (by simp) (by kernel_rfl) (by kernel_rfl) (.inr (Nat.le_trans (s243).size (Nat.le_of_eq hb314))) (fun w364 g365 x366 s367 => ?_)
                      have ho368 := own_grown ho349 g365 (fun j e1 e2 => by cases e2; exact nb325 e1.symm)
                      have ho369 := own_grown ho350 g365 (fun j e1 e2 => by cases e2; exact nb326 e1.symm)
                      have ho370 := own_grown ho351 g365 (fun j e1 e2 => by cases e2; exact nb327 e1.symm)
                      have ho371 := own_grown ho352 g365 (fun j e1 e2 => by cases e2; exact nb328 e1.symm)
                      have ho372 := own_grown ho336 g365 (fun j e1 e2 => by cases e2; exact nb358 e1.symm)
                      refine F.as (v := .bool (AddPipe_v1 m0 a0 a1)) (h := ?_)
                      refine F.endF [(0, .agg #[.int .i64 m0, .slice x0 n0 p0]), (1, .agg #[.int .i64 a1.id, .int .i64 a1.fr, .int .i64 a1.to, .int .i64 a1.sz]), (2, .pointer (some ⟨b2, 0, none⟩)), (3, .pointer (some ⟨b9, 0, none⟩)), (4, .bool false), (5, .int .i64 (szL 1048576 n0)), (6, .pointer (some ⟨g5, 0, none⟩)), (7, .bool (AddPipe_v1 m0 a0 a1)), (8, .pointer (some ⟨b48, 0, none⟩)), (9, .pointer (some ⟨g7, 0, none⟩)), (10, .bool (AddPipe_v1 m0 a0 a1)), (11, .int .i64 (1 + 4 * ((n0 : Nat) : Int))), (12, .int .i64 (1 + 4 * (((AddPipe_v0 m0 a0 a1).length : Nat) : Int))), (13, .int .i64 (1 + 4 * (((AddPipe_v0 m0 a0 a1).length : Nat) : Int))), (14, .pointer (some ⟨b312, 0, none⟩)), (15, .bool (AddPipe_v1 m0 a0 a1)), (20, .bool false), (46, .bool false), (51, .bool false), (67, .bool false), (75, .bool false), (78, .bool false)] (fun U373 => ?_)
                      have x7_0 := SG.blk s367 x7_0 (Option.some_ne_none _)
                      have x7_1 := SG.blk s367 x7_1 (Option.some_ne_none _)
                      have x7_2 := SG.blk s367 x7_2 (Option.some_ne_none _)
                      have x7_3 := SG.blk s367 x7_3 (Option.some_ne_none _)
                      have hx7 := SG.blk s367 hx7 (Option.some_ne_none _)
                      have c374 := (SG.belowR c178 s367 (fun kq e => by cases e))
                      have rd375 := Rd.kept rd179 (SG.below s367)
                      exact h33 0 _ _ ⟨A333, d334, b312, (fun iU9 => lk [(0, .agg #[.int .i64 m0, .slice x0 n0 p0]), (1, .agg #[.int .i64 a1.id, .int .i64 a1.fr, .int .i64 a1.to, .int .i64 a1.sz]), (2, .pointer (some ⟨b2, 0, none⟩)), (3, .pointer (some ⟨b9, 0, none⟩)), (4, .bool false), (5, .int .i64 (szL 1048576 n0)), (6, .pointer (some ⟨g5, 0, none⟩)), (7, .bool (AddPipe_v1 m0 a0 a1)), (8, .pointer (some ⟨b48, 0, none⟩)), (9, .pointer (some ⟨g7, 0, none⟩)), (10, .bool (AddPipe_v1 m0 a0 a1)), (11, .int .i64 (1 + 4 * ((n0 : Nat) : Int))), (12, .int .i64 (1 + 4 * (((AddPipe_v0 m0 a0 a1).length : Nat) : Int))), (13, .int .i64 (1 + 4 * (((AddPipe_v0 m0 a0 a1).length : Nat) : Int))), (14, .pointer (some ⟨b312, 0, none⟩)), (15, .bool (AddPipe_v1 m0 a0 a1)), (20, .bool false), (46, .bool false), (51, .bool false), (67, .bool false), (75, .bool false), (78, .bool false)] iU9 (U373 iU9)), (by kernel_rfl), x7_0, x7_1, x7_2, x7_3, hx7, ho368, ho369, ho370, rd375, x366, lo318, ho372, ne320, ne321, ne322, ne323, ne324, nb325, nb326, nb327, nb353, nb354, nb355, nb356, nb357, nb358, nr359, nr360, nr361, sp363, c374⟩
                  · refine W.sn (fun b => .pointer (some ⟨b, 0, none⟩)) #[.int .i64 0, .slice none 0 0] 29 s228 rfl (by kernel_rfl) rfl (fun _ => by kernel_rfl) (fun b376 w377 hb378 k379 x380 s381 => ?_)
                    refine F.nx ?_
                    have lo382 : w.heap.size ≤ b376 := Nat.le_trans ((SG.belowR c178 s228 (fun kq e => by cases e))).size (Nat.le_of_eq hb378)
                    have sp383 : Sp A5 ((AddPipe_v0 m0 a0 a1).length) (some b376) := sp_new rd179 (by have := (s228).size; have := hb378; omega)
                    have ne384 : b2 ≠ b376 := Nat.ne_of_lt (Nat.lt_of_lt_of_eq (Nat.lt_of_lt_of_le (blk_lt x7_0) (s228).size) hb378)
                    have ne385 : b9 ≠ b376 := Nat.ne_of_lt (Nat.lt_of_lt_of_eq (Nat.lt_of_lt_of_le (blk_lt x7_1) (s228).size) hb378)
                    have ne386 : g5 ≠ b376 := Nat.ne_of_lt (Nat.lt_of_lt_of_eq (Nat.lt_of_lt_of_le (blk_lt x7_2) (s228).size) hb378)
                    have ne387 : b48 ≠ b376 := Nat.ne_of_lt (Nat.lt_of_lt_of_eq (Nat.lt_of_lt_of_le (blk_lt x7_3) (s228).size) hb378)
                    have ne388 : g7 ≠ b376 := Nat.ne_of_lt (Nat.lt_of_lt_of_eq (Nat.lt_of_lt_of_le (blk_lt hx7) (s228).size) hb378)
                    have nb389 : Nb b376 (.slice A31 n0 d32) := nb_hi ho229 (Nat.le_of_eq hb378)
                    have nb390 : Nb b376 (.slice A7 ((AddPipe_v0 m0 a0 a1).length) d7) := nb_hi ho230 (Nat.le_of_eq hb378)
                    have nb391 : Nb b376 (.slice A83 n0 d84) := nb_hi ho231 (Nat.le_of_eq hb378)
                    have nb392 : Nb b376 (.slice A214 n0 d215) := nb_hi ho217 (Nat.le_of_eq hb378)
                    have ho393 := own_kept ho229 k379
                    have ho394 := own_kept ho230 k379
                    have ho395 := own_kept ho231 k379
                    have ho396 := own_kept ho217 k379
                    refine W.sc (vs := [.agg #[.int .i64 a1.id, .int .i64 a1.fr, .int .i64 a1.to, .int .i64 a1.sz]]) rfl rfl (by kernel_rfl) (by kernel_rfl) (by kernel_rfl) rfl (toPipe_any a1 _) ?_
                    rintro e w398 ⟨rfl, b397⟩
                    have s399 := SG.of_below s381 b397
                    refine ⟨_, rfl, s399, ?_⟩
                    refine F.nx ?_
                    have x380 := (b397.block _ (blk_lt x380)).trans x380
                    have ho400 := own_kept ho393 b397
                    have ho401 := own_kept ho394 b397
                    have ho402 := own_kept ho395 b397
                    have ho403 := own_kept ho396 b397
                    have lb410 := (Nat.lt_of_lt_of_le (blk_lt x7_0) (s399).size)
                    have lb411 := (Nat.lt_of_lt_of_le (blk_lt x7_1) (s399).size)
                    have lb412 := (Nat.lt_of_lt_of_le (blk_lt x7_2) (s399).size)
                    have lb413 := (Nat.lt_of_lt_of_le (blk_lt x7_3) (s399).size)
                    have lb414 := (Nat.lt_of_lt_of_le (blk_lt hx7) (s399).size)
                    have lb415 := (blk_lt x380)
                    have zl416 := (s399).size
                    have z408 := ((SG.belowR c178 s399 (fun kq e => by cases e))).size
                    refine W.sc (vs := [.agg #[.int .i64 m0, .slice A214 n0 d215], .agg #[.int .i64 a1.id, .int .i64 a1.fr, .int .i64 a1.to, .int .i64 a1.sz]]) rfl rfl (by kernel_rfl) (by kernel_rfl) (by kernel_rfl) rfl (AddPipe_impl m0 A214 n0 d215 a0 a1 _ (own_rd ho403) (by omega) (own_fm ho403)) ?_
                    rintro e w418 ⟨A404, d405, rfl, ho406, b417⟩
                    have s419 := SG.of_below s399 b417
                    refine ⟨_, rfl, s419, ?_⟩
                    refine F.nx ?_
                    have x380 := (b417.block _ (blk_lt x380)).trans x380
                    have ho420 := own_kept ho400 b417
                    have ho421 := own_kept ho401 b417
                    have ho422 := own_kept ho402 b417
                    have ho423 := own_kept ho403 b417
                    have ho407 := own_base (base' := w.heap.size) ho406 z408
                    have hlr409 := rd_pipes_len (own_rd ho407)
                    have nb424 : Nb b2 (.slice A404 ((AddPipe_v0 m0 a0 a1).length) d405) := nb_lo ho406 lb410
                    have nb425 : Nb b9 (.slice A404 ((AddPipe_v0 m0 a0 a1).length) d405) := nb_lo ho406 lb411
                    have nb426 : Nb g5 (.slice A404 ((AddPipe_v0 m0 a0 a1).length) d405) := nb_lo ho406 lb412
                    have nb427 : Nb b48 (.slice A404 ((AddPipe_v0 m0 a0 a1).length) d405) := nb_lo ho406 lb413
                    have nb428 : Nb g7 (.slice A404 ((AddPipe_v0 m0 a0 a1).length) d405) := nb_lo ho406 lb414
                    have nb429 : Nb b376 (.slice A404 ((AddPipe_v0 m0 a0 a1).length) d405) := nb_lo ho406 lb415
                    have nr430 : NbR (.slice A404 ((AddPipe_v0 m0 a0 a1).length) d405) (.slice A31 n0 d32) := fun j e1 e2 => by have h8 := (World.ownsRow.lt ho406 j e1).1; have h9 := (World.ownsRow.lt ho400 j e2).2; omega
                    have nr431 : NbR (.slice A404 ((AddPipe_v0 m0 a0 a1).length) d405) (.slice A7 ((AddPipe_v0 m0 a0 a1).length) d7) := fun j e1 e2 => by have h8 := (World.ownsRow.lt ho406 j e1).1; have h9 := (World.ownsRow.lt ho401 j e2).2; omega
                    have nr432 : NbR (.slice A404 ((AddPipe_v0 m0 a0 a1).length) d405) (.slice A83 n0 d84) := fun j e1 e2 => by have h8 := (World.ownsRow.lt ho406 j e1).1; have h9 := (World.ownsRow.lt ho402 j e2).2; omega
                    have nr433 : NbR (.slice A404 ((AddPipe_v0 m0 a0 a1).length) d405) (.slice A214 n0 d215) := fun j e1 e2 => by have h8 := (World.ownsRow.lt ho406 j e1).1; have h9 := (World.ownsRow.lt ho403 j e2).2; omega
                    have sp434 : Sp A5 ((AddPipe_v0 m0 a0 a1).length) (Value.ownBlock (.slice A404 ((AddPipe_v0 m0 a0 a1).length) d405)) := sp_row rd179 ho406 (by omega)
                    refine F.mv (v := .tuple #[.agg #[.int .i64 (AddPipe_m0 m0 a0 a1), .slice A404 ((AddPipe_v0 m0 a0 a1).length) d405], .bool (AddPipe_v1 m0 a0 a1)]) (h := ?_)
                    refine F.q (v := .agg #[.int .i64 (AddPipe_m0 m0 a0 a1), .slice A404 ((AddPipe_v0 m0 a0 a1).length) d405]) (hr := (r_extract (vs := #[.agg #[.int .i64 (AddPipe_m0 m0 a0 a1), .slice A404 ((AddPipe_v0 m0 a0 a1).length) d405], .bool (AddPipe_v1 m0 a0 a1)]) rfl (ev_any (by kernel_rfl)) (by kernel_rfl))) (h := ?_)
                    refine F.q (v := .bool (AddPipe_v1 m0 a0 a1)) (hr := (r_extract (vs := #[.agg #[.int .i64 (AddPipe_m0 m0 a0 a1), .slice A404 ((AddPipe_v0 m0 a0 a1).length) d405], .bool (AddPipe_v1 m0 a0 a1)]) rfl (ev_any (by kernel_rfl)) (by kernel_rfl))) (h := ?_)
                    refine W.ss (v := .agg #[.int .i64 (AddPipe_m0 m0 a0 a1), .slice A404 ((AddPipe_v0 m0 a0 a1).length) d405]) (j := 0) (news := [.int .i64 (AddPipe_m0 m0 a0 a1), .slice A404 ((AddPipe_v0 m0 a0 a1).length) d405]) (cs' := #[.int .i64 (AddPipe_m0 m0 a0 a1), .slice A404 ((AddPipe_v0 m0 a0 a1).length) d405]) s419 rfl (by kernel_rfl) rfl rfl (by kernel_rfl) (by kernel_rfl) x380 (by kernel_rfl) (by kernel_rfl) (by simp) (by kernel_rfl) (by kernel_rfl) (.inr (Nat.le_trans (s228).size (Nat.le_of_eq hb378))) (fun w435 g436 x437 s438 => ?_)
                    have ho439 := own_grown ho420 g436 (fun j e1 e2 => by cases e2; exact nb389 e1.symm)
                    have ho440 := own_grown ho421 g436 (fun j e1 e2 => by cases e2; exact nb390 e1.symm)
                    have ho441 := own_grown ho422 g436 (fun j e1 e2 => by cases e2; exact nb391 e1.symm)
                    have ho442 := own_grown ho423 g436 (fun j e1 e2 => by cases e2; exact nb392 e1.symm)
                    have ho443 := own_grown ho407 g436 (fun j e1 e2 => by cases e2; exact nb429 e1.symm)
                    refine F.as (v := .bool (AddPipe_v1 m0 a0 a1)) (h := ?_)
                    refine F.endF [(0, .agg #[.int .i64 m0, .slice x0 n0 p0]), (1, .agg #[.int .i64 a1.id, .int .i64 a1.fr, .int .i64 a1.to, .int .i64 a1.sz]), (2, .pointer (some ⟨b2, 0, none⟩)), (3, .pointer (some ⟨b9, 0, none⟩)), (4, .bool false), (5, .int .i64 (szL 1048576 n0)), (6, .pointer (some ⟨g5, 0, none⟩)), (7, .bool (AddPipe_v1 m0 a0 a1)), (8, .pointer (some ⟨b48, 0, none⟩)), (9, .pointer (some ⟨g7, 0, none⟩)), (10, .bool (AddPipe_v1 m0 a0 a1)), (11, .int .i64 (1 + 4 * ((n0 : Nat) : Int))), (12, .int .i64 (1 + 4 * (((AddPipe_v0 m0 a0 a1).length : Nat) : Int))), (13, .int .i64 (1 + 4 * (((AddPipe_v0 m0 a0 a1).length : Nat) : Int))), (14, .pointer (some ⟨b376, 0, none⟩)), (15, .bool (AddPipe_v1 m0 a0 a1)), (20, .bool false), (46, .bool false), (51, .bool false), (67, .bool false), (75, .bool false), (78, .bool false)] (fun U444 => ?_)
                    have x7_0 := SG.blk s438 x7_0 (Option.some_ne_none _)
                    have x7_1 := SG.blk s438 x7_1 (Option.some_ne_none _)
                    have x7_2 := SG.blk s438 x7_2 (Option.some_ne_none _)
                    have x7_3 := SG.blk s438 x7_3 (Option.some_ne_none _)
                    have hx7 := SG.blk s438 hx7 (Option.some_ne_none _)
                    have c445 := (SG.belowR c178 s438 (fun kq e => by cases e))
                    have rd446 := Rd.kept rd179 (SG.below s438)
                    exact h33 0 _ _ ⟨A404, d405, b376, (fun iU9 => lk [(0, .agg #[.int .i64 m0, .slice x0 n0 p0]), (1, .agg #[.int .i64 a1.id, .int .i64 a1.fr, .int .i64 a1.to, .int .i64 a1.sz]), (2, .pointer (some ⟨b2, 0, none⟩)), (3, .pointer (some ⟨b9, 0, none⟩)), (4, .bool false), (5, .int .i64 (szL 1048576 n0)), (6, .pointer (some ⟨g5, 0, none⟩)), (7, .bool (AddPipe_v1 m0 a0 a1)), (8, .pointer (some ⟨b48, 0, none⟩)), (9, .pointer (some ⟨g7, 0, none⟩)), (10, .bool (AddPipe_v1 m0 a0 a1)), (11, .int .i64 (1 + 4 * ((n0 : Nat) : Int))), (12, .int .i64 (1 + 4 * (((AddPipe_v0 m0 a0 a1).length : Nat) : Int))), (13, .int .i64 (1 + 4 * (((AddPipe_v0 m0 a0 a1).length : Nat) : Int))), (14, .pointer (some ⟨b376, 0, none⟩)), (15, .bool (AddPipe_v1 m0 a0 a1)), (20, .bool false), (46, .bool false), (51, .bool false), (67, .bool false), (75, .bool false), (78, .bool false)] iU9 (U444 iU9)), (by kernel_rfl), x7_0, x7_1, x7_2, x7_3, hx7, ho439, ho440, ho441, rd446, x437, lo382, ho443, ne384, ne385, ne386, ne387, ne388, nb389, nb390, nb391, nb424, nb425, nb426, nb427, nb428, nb429, nr430, nr431, nr432, sp434, c445⟩
                · refine W.sn (fun b => .pointer (some ⟨b, 0, none⟩)) #[.int .i64 0, .slice none 0 0] 29 s210 rfl (by kernel_rfl) rfl (fun _ => by kernel_rfl) (fun b447 w448 hb449 k450 x451 s452 => ?_)
                  refine F.nx ?_
                  have lo453 : w.heap.size ≤ b447 := Nat.le_trans ((SG.belowR c178 s210 (fun kq e => by cases e))).size (Nat.le_of_eq hb449)
                  have sp454 : Sp A5 ((AddPipe_v0 m0 a0 a1).length) (some b447) := sp_new rd179 (by have := (s210).size; have := hb449; omega)
                  have ne455 : b2 ≠ b447 := Nat.ne_of_lt (Nat.lt_of_lt_of_eq (Nat.lt_of_lt_of_le (blk_lt x7_0) (s210).size) hb449)
                  have ne456 : b9 ≠ b447 := Nat.ne_of_lt (Nat.lt_of_lt_of_eq (Nat.lt_of_lt_of_le (blk_lt x7_1) (s210).size) hb449)
                  have ne457 : g5 ≠ b447 := Nat.ne_of_lt (Nat.lt_of_lt_of_eq (Nat.lt_of_lt_of_le (blk_lt x7_2) (s210).size) hb449)
                  have ne458 : b48 ≠ b447 := Nat.ne_of_lt (Nat.lt_of_lt_of_eq (Nat.lt_of_lt_of_le (blk_lt x7_3) (s210).size) hb449)
                  have ne459 : g7 ≠ b447 := Nat.ne_of_lt (Nat.lt_of_lt_of_eq (Nat.lt_of_lt_of_le (blk_lt hx7) (s210).size) hb449)
                  have nb460 : Nb b447 (.slice A31 n0 d32) := nb_hi ho211 (Nat.le_of_eq hb449)
                  have nb461 : Nb b447 (.slice A7 ((AddPipe_v0 m0 a0 a1).length) d7) := nb_hi ho212 (Nat.le_of_eq hb449)
                  have nb462 : Nb b447 (.slice A83 n0 d84) := nb_hi ho213 (Nat.le_of_eq hb449)
                  have ho463 := own_kept ho211 k450
                  have ho464 := own_kept ho212 k450
                  have ho465 := own_kept ho213 k450
                  have lb472 := (Nat.lt_of_lt_of_le (blk_lt x7_0) (s452).size)
                  have lb473 := (Nat.lt_of_lt_of_le (blk_lt x7_1) (s452).size)
                  have lb474 := (Nat.lt_of_lt_of_le (blk_lt x7_2) (s452).size)
                  have lb475 := (Nat.lt_of_lt_of_le (blk_lt x7_3) (s452).size)
                  have lb476 := (Nat.lt_of_lt_of_le (blk_lt hx7) (s452).size)
                  have lb477 := (blk_lt x451)
                  have zl478 := (s452).size
                  have z470 := ((SG.belowR c178 s452 (fun kq e => by cases e))).size
                  refine W.sc (vs := [.agg #[.int .i64 m0, .slice x0 n0 p0]]) rfl rfl (by kernel_rfl) (by kernel_rfl) (by kernel_rfl) rfl (toNetwork_any m0 x0 n0 p0 a0 _ (Rd.kept h0 (SG.belowR c178 s452 (fun kq e => by cases e))) (by omega)) ?_
                  rintro e w480 ⟨A466, d467, rfl, ho468, b479⟩
                  have s481 := SG.of_below s452 b479
                  refine ⟨_, rfl, s481, ?_⟩
                  refine F.nx ?_
                  have x451 := (b479.block _ (blk_lt x451)).trans x451
                  have ho482 := own_kept ho463 b479
                  have ho483 := own_kept ho464 b479
                  have ho484 := own_kept ho465 b479
                  have ho469 := own_base (base' := w.heap.size) ho468 z470
                  have hlr471 := rd_pipes_len (own_rd ho469)
                  have nb485 : Nb b2 (.slice A466 n0 d467) := nb_lo ho468 lb472
                  have nb486 : Nb b9 (.slice A466 n0 d467) := nb_lo ho468 lb473
                  have nb487 : Nb g5 (.slice A466 n0 d467) := nb_lo ho468 lb474
                  have nb488 : Nb b48 (.slice A466 n0 d467) := nb_lo ho468 lb475
                  have nb489 : Nb g7 (.slice A466 n0 d467) := nb_lo ho468 lb476
                  have nb490 : Nb b447 (.slice A466 n0 d467) := nb_lo ho468 lb477
                  have nr491 : NbR (.slice A466 n0 d467) (.slice A31 n0 d32) := fun j e1 e2 => by have h8 := (World.ownsRow.lt ho468 j e1).1; have h9 := (World.ownsRow.lt ho463 j e2).2; omega
                  have nr492 : NbR (.slice A466 n0 d467) (.slice A7 ((AddPipe_v0 m0 a0 a1).length) d7) := fun j e1 e2 => by have h8 := (World.ownsRow.lt ho468 j e1).1; have h9 := (World.ownsRow.lt ho464 j e2).2; omega
                  have nr493 : NbR (.slice A466 n0 d467) (.slice A83 n0 d84) := fun j e1 e2 => by have h8 := (World.ownsRow.lt ho468 j e1).1; have h9 := (World.ownsRow.lt ho465 j e2).2; omega
                  have sp494 : Sp A5 ((AddPipe_v0 m0 a0 a1).length) (Value.ownBlock (.slice A466 n0 d467)) := sp_row rd179 ho468 (by omega)
                  refine W.sc (vs := [.agg #[.int .i64 a1.id, .int .i64 a1.fr, .int .i64 a1.to, .int .i64 a1.sz]]) rfl rfl (by kernel_rfl) (by kernel_rfl) (by kernel_rfl) rfl (toPipe_any a1 _) ?_
                  rintro e w496 ⟨rfl, b495⟩
                  have s497 := SG.of_below s481 b495
                  refine ⟨_, rfl, s497, ?_⟩
                  refine F.nx ?_
                  have x451 := (b495.block _ (blk_lt x451)).trans x451
                  have ho498 := own_kept ho482 b495
                  have ho499 := own_kept ho483 b495
                  have ho500 := own_kept ho484 b495
                  have ho501 := own_kept ho469 b495
                  have lb508 := (Nat.lt_of_lt_of_le (blk_lt x7_0) (s497).size)
                  have lb509 := (Nat.lt_of_lt_of_le (blk_lt x7_1) (s497).size)
                  have lb510 := (Nat.lt_of_lt_of_le (blk_lt x7_2) (s497).size)
                  have lb511 := (Nat.lt_of_lt_of_le (blk_lt x7_3) (s497).size)
                  have lb512 := (Nat.lt_of_lt_of_le (blk_lt hx7) (s497).size)
                  have lb513 := (blk_lt x451)
                  have zl514 := (s497).size
                  have z506 := ((SG.belowR c178 s497 (fun kq e => by cases e))).size
                  refine W.sc (vs := [.agg #[.int .i64 m0, .slice A466 n0 d467], .agg #[.int .i64 a1.id, .int .i64 a1.fr, .int .i64 a1.to, .int .i64 a1.sz]]) rfl rfl (by kernel_rfl) (by kernel_rfl) (by kernel_rfl) rfl (AddPipe_impl m0 A466 n0 d467 a0 a1 _ (own_rd ho501) (by omega) (own_fm ho501)) ?_
                  rintro e w516 ⟨A502, d503, rfl, ho504, b515⟩
                  have s517 := SG.of_below s497 b515
                  refine ⟨_, rfl, s517, ?_⟩
                  refine F.nx ?_
                  have x451 := (b515.block _ (blk_lt x451)).trans x451
                  have ho518 := own_kept ho498 b515
                  have ho519 := own_kept ho499 b515
                  have ho520 := own_kept ho500 b515
                  have ho521 := own_kept ho501 b515
                  have ho505 := own_base (base' := w.heap.size) ho504 z506
                  have hlr507 := rd_pipes_len (own_rd ho505)
                  have nb522 : Nb b2 (.slice A502 ((AddPipe_v0 m0 a0 a1).length) d503) := nb_lo ho504 lb508
                  have nb523 : Nb b9 (.slice A502 ((AddPipe_v0 m0 a0 a1).length) d503) := nb_lo ho504 lb509
                  have nb524 : Nb g5 (.slice A502 ((AddPipe_v0 m0 a0 a1).length) d503) := nb_lo ho504 lb510
                  have nb525 : Nb b48 (.slice A502 ((AddPipe_v0 m0 a0 a1).length) d503) := nb_lo ho504 lb511
                  have nb526 : Nb g7 (.slice A502 ((AddPipe_v0 m0 a0 a1).length) d503) := nb_lo ho504 lb512
                  have nb527 : Nb b447 (.slice A502 ((AddPipe_v0 m0 a0 a1).length) d503) := nb_lo ho504 lb513
                  have nr528 : NbR (.slice A502 ((AddPipe_v0 m0 a0 a1).length) d503) (.slice A31 n0 d32) := fun j e1 e2 => by have h8 := (World.ownsRow.lt ho504 j e1).1; have h9 := (World.ownsRow.lt ho498 j e2).2; omega
                  have nr529 : NbR (.slice A502 ((AddPipe_v0 m0 a0 a1).length) d503) (.slice A7 ((AddPipe_v0 m0 a0 a1).length) d7) := fun j e1 e2 => by have h8 := (World.ownsRow.lt ho504 j e1).1; have h9 := (World.ownsRow.lt ho499 j e2).2; omega
                  have nr530 : NbR (.slice A502 ((AddPipe_v0 m0 a0 a1).length) d503) (.slice A83 n0 d84) := fun j e1 e2 => by have h8 := (World.ownsRow.lt ho504 j e1).1; have h9 := (World.ownsRow.lt ho500 j e2).2; omega
                  have nr531 : NbR (.slice A502 ((AddPipe_v0 m0 a0 a1).length) d503) (.slice A466 n0 d467) := fun j e1 e2 => by have h8 := (World.ownsRow.lt ho504 j e1).1; have h9 := (World.ownsRow.lt ho501 j e2).2; omega
                  have sp532 : Sp A5 ((AddPipe_v0 m0 a0 a1).length) (Value.ownBlock (.slice A502 ((AddPipe_v0 m0 a0 a1).length) d503)) := sp_row rd179 ho504 (by omega)
                  refine F.mv (v := .tuple #[.agg #[.int .i64 (AddPipe_m0 m0 a0 a1), .slice A502 ((AddPipe_v0 m0 a0 a1).length) d503], .bool (AddPipe_v1 m0 a0 a1)]) (h := ?_)
                  refine F.q (v := .agg #[.int .i64 (AddPipe_m0 m0 a0 a1), .slice A502 ((AddPipe_v0 m0 a0 a1).length) d503]) (hr := (r_extract (vs := #[.agg #[.int .i64 (AddPipe_m0 m0 a0 a1), .slice A502 ((AddPipe_v0 m0 a0 a1).length) d503], .bool (AddPipe_v1 m0 a0 a1)]) rfl (ev_any (by kernel_rfl)) (by kernel_rfl))) (h := ?_)
                  refine F.q (v := .bool (AddPipe_v1 m0 a0 a1)) (hr := (r_extract (vs := #[.agg #[.int .i64 (AddPipe_m0 m0 a0 a1), .slice A502 ((AddPipe_v0 m0 a0 a1).length) d503], .bool (AddPipe_v1 m0 a0 a1)]) rfl (ev_any (by kernel_rfl)) (by kernel_rfl))) (h := ?_)
                  refine W.ss (v := .agg #[.int .i64 (AddPipe_m0 m0 a0 a1), .slice A502 ((AddPipe_v0 m0 a0 a1).length) d503]) (j := 0) (news := [.int .i64 (AddPipe_m0 m0 a0 a1), .slice A502 ((AddPipe_v0 m0 a0 a1).length) d503]) (cs' := #[.int .i64 (AddPipe_m0 m0 a0 a1), .slice A502 ((AddPipe_v0 m0 a0 a1).length) d503]) s517 rfl (by kernel_rfl) rfl rfl (by kernel_rfl) (by kernel_rfl) x451 (by kernel_rfl) (by kernel_rfl) (by simp) (by kernel_rfl) (by kernel_rfl) (.inr (Nat.le_trans (s210).size (Nat.le_of_eq hb449))) (fun w533 g534 x535 s536 => ?_)
                  have ho537 := own_grown ho518 g534 (fun j e1 e2 => by cases e2; exact nb460 e1.symm)
                  have ho538 := own_grown ho519 g534 (fun j e1 e2 => by cases e2; exact nb461 e1.symm)
                  have ho539 := own_grown ho520 g534 (fun j e1 e2 => by cases e2; exact nb462 e1.symm)
                  have ho540 := own_grown ho521 g534 (fun j e1 e2 => by cases e2; exact nb490 e1.symm)
                  have ho541 := own_grown ho505 g534 (fun j e1 e2 => by cases e2; exact nb527 e1.symm)
                  refine F.as (v := .bool (AddPipe_v1 m0 a0 a1)) (h := ?_)
                  refine F.endF [(0, .agg #[.int .i64 m0, .slice x0 n0 p0]), (1, .agg #[.int .i64 a1.id, .int .i64 a1.fr, .int .i64 a1.to, .int .i64 a1.sz]), (2, .pointer (some ⟨b2, 0, none⟩)), (3, .pointer (some ⟨b9, 0, none⟩)), (4, .bool false), (5, .int .i64 (szL 1048576 n0)), (6, .pointer (some ⟨g5, 0, none⟩)), (7, .bool (AddPipe_v1 m0 a0 a1)), (8, .pointer (some ⟨b48, 0, none⟩)), (9, .pointer (some ⟨g7, 0, none⟩)), (10, .bool (AddPipe_v1 m0 a0 a1)), (11, .int .i64 (1 + 4 * ((n0 : Nat) : Int))), (12, .int .i64 (1 + 4 * (((AddPipe_v0 m0 a0 a1).length : Nat) : Int))), (13, .int .i64 (1 + 4 * (((AddPipe_v0 m0 a0 a1).length : Nat) : Int))), (14, .pointer (some ⟨b447, 0, none⟩)), (15, .bool (AddPipe_v1 m0 a0 a1)), (20, .bool false), (46, .bool false), (51, .bool false), (67, .bool false), (75, .bool false), (78, .bool false)] (fun U542 => ?_)
                  have x7_0 := SG.blk s536 x7_0 (Option.some_ne_none _)
                  have x7_1 := SG.blk s536 x7_1 (Option.some_ne_none _)
                  have x7_2 := SG.blk s536 x7_2 (Option.some_ne_none _)
                  have x7_3 := SG.blk s536 x7_3 (Option.some_ne_none _)
                  have hx7 := SG.blk s536 hx7 (Option.some_ne_none _)
                  have c543 := (SG.belowR c178 s536 (fun kq e => by cases e))
                  have rd544 := Rd.kept rd179 (SG.below s536)
                  exact h33 0 _ _ ⟨A502, d503, b447, (fun iU9 => lk [(0, .agg #[.int .i64 m0, .slice x0 n0 p0]), (1, .agg #[.int .i64 a1.id, .int .i64 a1.fr, .int .i64 a1.to, .int .i64 a1.sz]), (2, .pointer (some ⟨b2, 0, none⟩)), (3, .pointer (some ⟨b9, 0, none⟩)), (4, .bool false), (5, .int .i64 (szL 1048576 n0)), (6, .pointer (some ⟨g5, 0, none⟩)), (7, .bool (AddPipe_v1 m0 a0 a1)), (8, .pointer (some ⟨b48, 0, none⟩)), (9, .pointer (some ⟨g7, 0, none⟩)), (10, .bool (AddPipe_v1 m0 a0 a1)), (11, .int .i64 (1 + 4 * ((n0 : Nat) : Int))), (12, .int .i64 (1 + 4 * (((AddPipe_v0 m0 a0 a1).length : Nat) : Int))), (13, .int .i64 (1 + 4 * (((AddPipe_v0 m0 a0 a1).length : Nat) : Int))), (14, .pointer (some ⟨b447, 0, none⟩)), (15, .bool (AddPipe_v1 m0 a0 a1)), (20, .bool false), (46, .bool false), (51, .bool false), (67, .bool false), (75, .bool false), (78, .bool false)] iU9 (U542 iU9)), (by kernel_rfl), x7_0, x7_1, x7_2, x7_3, hx7, ho537, ho538, ho539, rd544, x535, lo453, ho541, ne455, ne456, ne457, ne458, ne459, nb460, nb461, nb462, nb522, nb523, nb524, nb525, nb526, nb527, nr528, nr529, nr530, sp532, c543⟩
        intro K34 h34
        refine W.region_sch (row := none) (Sch.app [(0, false), (1, false)] (.br 2 7 (Sch.app [] (.br 3 7 (Sch.of [(4, false), (5, false), (6, false), (7, true), (8, true), (9, false)]) (Sch.of [(3, true), (4, false), (5, false), (6, false), (8, true), (9, false)]))) (Sch.of [(2, true), (3, true), (4, false), (5, false), (6, false), (8, true), (9, false)]))) (by kernel_rfl) (by kernel_rfl) (fun _ d _ _ _ h => by cases d <;> exact h) (by kernel_rfl) (fun w545 e546 s547 => ?_)
        have ho548 := own_heap ho65 e546
        refine F.q (v := .agg #[.int .i64 m0, .slice A31 n0 d32]) (hr := (r_load2 rfl (ev_any (by kernel_rfl)) (by kernel_rfl) (by kernel_rfl) (sgS (blk_cell (j := 0) x63 (by kernel_rfl)) (Option.some_ne_none _)) (sgS (blk_cell (j := 1) x63 (by kernel_rfl)) (Option.some_ne_none _)))) (h := ?_)
        refine F.q (v := .agg #[.int .i64 a1.id, .int .i64 a1.fr, .int .i64 a1.to, .int .i64 a1.sz]) (hr := (r_load4 rfl (ev_any (by kernel_rfl)) (by kernel_rfl) (by kernel_rfl) (sgS (blk_cell (j := 0) x5_1 (by kernel_rfl)) (Option.some_ne_none _)) (sgS (blk_cell (j := 1) x5_1 (by kernel_rfl)) (Option.some_ne_none _)) (sgS (blk_cell (j := 2) x5_1 (by kernel_rfl)) (Option.some_ne_none _)) (sgS (blk_cell (j := 3) x5_1 (by kernel_rfl)) (Option.some_ne_none _)))) (h := ?_)
        refine W.sbr ?_ ?_
        · refine W.sc (vs := [.agg #[.int .i64 a1.id, .int .i64 a1.fr, .int .i64 a1.to, .int .i64 a1.sz]]) rfl rfl (by kernel_rfl) (by kernel_rfl) (by kernel_rfl) rfl (toPipe_any a1 _) ?_
          rintro e w550 ⟨rfl, b549⟩
          have s551 := SG.of_below s547 b549
          refine ⟨_, rfl, s551, ?_⟩
          refine F.nx ?_
          have ho552 := own_kept ho548 b549
          refine W.sbr ?_ ?_
          · have lb559 := (Nat.lt_of_lt_of_le (blk_lt x5_0) (s551).size)
            have lb560 := (Nat.lt_of_lt_of_le (blk_lt x5_1) (s551).size)
            have lb561 := (Nat.lt_of_lt_of_le (blk_lt hx5) (s551).size)
            have lb562 := (Nat.lt_of_lt_of_le (blk_lt x63) (s551).size)
            have zl563 := (s551).size
            have z557 := ((SG.belowR c67 s551 (fun kq e => by cases e))).size
            refine W.sc (vs := [.agg #[.int .i64 m0, .slice A31 n0 d32], .agg #[.int .i64 a1.id, .int .i64 a1.fr, .int .i64 a1.to, .int .i64 a1.sz]]) rfl rfl (by kernel_rfl) (by kernel_rfl) (by kernel_rfl) rfl (AddPipe_impl m0 A31 n0 d32 a0 a1 _ (own_rd ho552) (by omega) (own_fm ho552)) ?_
            rintro e w565 ⟨A553, d554, rfl, ho555, b564⟩
            have s566 := SG.of_below s551 b564
            refine ⟨_, rfl, s566, ?_⟩
            refine F.nx ?_
            have ho567 := own_kept ho552 b564
            have ho556 := own_base (base' := w.heap.size) ho555 z557
            have hlr558 := rd_pipes_len (own_rd ho556)
            have nb568 : Nb b2 (.slice A553 ((AddPipe_v0 m0 a0 a1).length) d554) := nb_lo ho555 lb559
            have nb569 : Nb b9 (.slice A553 ((AddPipe_v0 m0 a0 a1).length) d554) := nb_lo ho555 lb560
            have nb570 : Nb g5 (.slice A553 ((AddPipe_v0 m0 a0 a1).length) d554) := nb_lo ho555 lb561
            have nb571 : Nb b48 (.slice A553 ((AddPipe_v0 m0 a0 a1).length) d554) := nb_lo ho555 lb562
            have nr572 : NbR (.slice A553 ((AddPipe_v0 m0 a0 a1).length) d554) (.slice A31 n0 d32) := fun j e1 e2 => by have h8 := (World.ownsRow.lt ho555 j e1).1; have h9 := (World.ownsRow.lt ho552 j e2).2; omega
            have sp573 : Sp A5 ((AddPipe_v0 m0 a0 a1).length) (Value.ownBlock (.slice A553 ((AddPipe_v0 m0 a0 a1).length) d554)) := sp_row rd68 ho555 (by omega)
            refine F.mv (v := .tuple #[.agg #[.int .i64 (AddPipe_m0 m0 a0 a1), .slice A553 ((AddPipe_v0 m0 a0 a1).length) d554], .bool (AddPipe_v1 m0 a0 a1)]) (h := ?_)
            refine F.q (v := .agg #[.int .i64 (AddPipe_m0 m0 a0 a1), .slice A553 ((AddPipe_v0 m0 a0 a1).length) d554]) (hr := (r_extract (vs := #[.agg #[.int .i64 (AddPipe_m0 m0 a0 a1), .slice A553 ((AddPipe_v0 m0 a0 a1).length) d554], .bool (AddPipe_v1 m0 a0 a1)]) rfl (ev_any (by kernel_rfl)) (by kernel_rfl))) (h := ?_)
            refine F.q (v := .bool (AddPipe_v1 m0 a0 a1)) (hr := (r_extract (vs := #[.agg #[.int .i64 (AddPipe_m0 m0 a0 a1), .slice A553 ((AddPipe_v0 m0 a0 a1).length) d554], .bool (AddPipe_v1 m0 a0 a1)]) rfl (ev_any (by kernel_rfl)) (by kernel_rfl))) (h := ?_)
            refine W.sn (fun b => .pointer (some ⟨b, 0, none⟩)) #[.int .i64 0, .slice none 0 0] 29 s566 rfl (by kernel_rfl) rfl (fun _ => by kernel_rfl) (fun b574 w575 hb576 k577 x578 s579 => ?_)
            refine F.nx ?_
            have lo580 : w.heap.size ≤ b574 := Nat.le_trans ((SG.belowR c67 s566 (fun kq e => by cases e))).size (Nat.le_of_eq hb576)
            have sp581 : Sp A5 ((AddPipe_v0 m0 a0 a1).length) (some b574) := sp_new rd68 (by have := (s566).size; have := hb576; omega)
            have ne582 : b2 ≠ b574 := Nat.ne_of_lt (Nat.lt_of_lt_of_eq (Nat.lt_of_lt_of_le (blk_lt x5_0) (s566).size) hb576)
            have ne583 : b9 ≠ b574 := Nat.ne_of_lt (Nat.lt_of_lt_of_eq (Nat.lt_of_lt_of_le (blk_lt x5_1) (s566).size) hb576)
            have ne584 : g5 ≠ b574 := Nat.ne_of_lt (Nat.lt_of_lt_of_eq (Nat.lt_of_lt_of_le (blk_lt hx5) (s566).size) hb576)
            have ne585 : b48 ≠ b574 := Nat.ne_of_lt (Nat.lt_of_lt_of_eq (Nat.lt_of_lt_of_le (blk_lt x63) (s566).size) hb576)
            have nb586 : Nb b574 (.slice A31 n0 d32) := nb_hi ho567 (Nat.le_of_eq hb576)
            have nb587 : Nb b574 (.slice A553 ((AddPipe_v0 m0 a0 a1).length) d554) := nb_hi ho556 (Nat.le_of_eq hb576)
            have ho588 := own_kept ho567 k577
            have ho589 := own_kept ho556 k577
            refine W.ss (v := .agg #[.int .i64 (AddPipe_m0 m0 a0 a1), .slice A553 ((AddPipe_v0 m0 a0 a1).length) d554]) (j := 0) (news := [.int .i64 (AddPipe_m0 m0 a0 a1), .slice A553 ((AddPipe_v0 m0 a0 a1).length) d554]) (cs' := #[.int .i64 (AddPipe_m0 m0 a0 a1), .slice A553 ((AddPipe_v0 m0 a0 a1).length) d554]) s579 rfl (by kernel_rfl) rfl rfl (by kernel_rfl) (by kernel_rfl) x578 (by kernel_rfl) (by kernel_rfl) (by simp) (by kernel_rfl) (by kernel_rfl) (.inr (Nat.le_trans (s566).size (Nat.le_of_eq hb576))) (fun w590 g591 x592 s593 => ?_)
            have ho594 := own_grown ho588 g591 (fun j e1 e2 => by cases e2; exact nb586 e1.symm)
            have ho595 := own_grown ho589 g591 (fun j e1 e2 => by cases e2; exact nb587 e1.symm)
            refine F.as (v := .bool (AddPipe_v1 m0 a0 a1)) (h := ?_)
            refine F.endF [(0, .agg #[.int .i64 m0, .slice x0 n0 p0]), (1, .agg #[.int .i64 a1.id, .int .i64 a1.fr, .int .i64 a1.to, .int .i64 a1.sz]), (2, .pointer (some ⟨b2, 0, none⟩)), (3, .pointer (some ⟨b9, 0, none⟩)), (4, .bool false), (5, .int .i64 (szL 1048576 n0)), (6, .pointer (some ⟨g5, 0, none⟩)), (7, .bool (AddPipe_v1 m0 a0 a1)), (8, .pointer (some ⟨b48, 0, none⟩)), (9, .pointer (some ⟨b574, 0, none⟩)), (10, .bool (AddPipe_v1 m0 a0 a1)), (20, .bool false)] (fun U596 => ?_)
            have x5_0 := SG.blk s593 x5_0 (Option.some_ne_none _)
            have x5_1 := SG.blk s593 x5_1 (Option.some_ne_none _)
            have hx5 := SG.blk s593 hx5 (Option.some_ne_none _)
            have x63 := SG.blk s593 x63 (Option.some_ne_none _)
            have c597 := (SG.belowR c67 s593 (fun kq e => by cases e))
            have rd598 := Rd.kept rd68 (SG.below s593)
            exact h34 0 _ _ ⟨A553, d554, b574, (fun iU9 => lk [(0, .agg #[.int .i64 m0, .slice x0 n0 p0]), (1, .agg #[.int .i64 a1.id, .int .i64 a1.fr, .int .i64 a1.to, .int .i64 a1.sz]), (2, .pointer (some ⟨b2, 0, none⟩)), (3, .pointer (some ⟨b9, 0, none⟩)), (4, .bool false), (5, .int .i64 (szL 1048576 n0)), (6, .pointer (some ⟨g5, 0, none⟩)), (7, .bool (AddPipe_v1 m0 a0 a1)), (8, .pointer (some ⟨b48, 0, none⟩)), (9, .pointer (some ⟨b574, 0, none⟩)), (10, .bool (AddPipe_v1 m0 a0 a1)), (20, .bool false)] iU9 (U596 iU9)), (by kernel_rfl), x5_0, x5_1, hx5, x63, ho594, rd598, x592, lo580, ho595, ne582, ne583, ne584, ne585, nb586, nb568, nb569, nb570, nb571, nb587, nr572, sp573, c597⟩
          · refine W.sn (fun b => .pointer (some ⟨b, 0, none⟩)) #[.int .i64 0, .slice none 0 0] 29 s551 rfl (by kernel_rfl) rfl (fun _ => by kernel_rfl) (fun b599 w600 hb601 k602 x603 s604 => ?_)
            refine F.nx ?_
            have lo605 : w.heap.size ≤ b599 := Nat.le_trans ((SG.belowR c67 s551 (fun kq e => by cases e))).size (Nat.le_of_eq hb601)
            have sp606 : Sp A5 ((AddPipe_v0 m0 a0 a1).length) (some b599) := sp_new rd68 (by have := (s551).size; have := hb601; omega)
            have ne607 : b2 ≠ b599 := Nat.ne_of_lt (Nat.lt_of_lt_of_eq (Nat.lt_of_lt_of_le (blk_lt x5_0) (s551).size) hb601)
            have ne608 : b9 ≠ b599 := Nat.ne_of_lt (Nat.lt_of_lt_of_eq (Nat.lt_of_lt_of_le (blk_lt x5_1) (s551).size) hb601)
            have ne609 : g5 ≠ b599 := Nat.ne_of_lt (Nat.lt_of_lt_of_eq (Nat.lt_of_lt_of_le (blk_lt hx5) (s551).size) hb601)
            have ne610 : b48 ≠ b599 := Nat.ne_of_lt (Nat.lt_of_lt_of_eq (Nat.lt_of_lt_of_le (blk_lt x63) (s551).size) hb601)
            have nb611 : Nb b599 (.slice A31 n0 d32) := nb_hi ho552 (Nat.le_of_eq hb601)
            have ho612 := own_kept ho552 k602
            have lb619 := (Nat.lt_of_lt_of_le (blk_lt x5_0) (s604).size)
            have lb620 := (Nat.lt_of_lt_of_le (blk_lt x5_1) (s604).size)
            have lb621 := (Nat.lt_of_lt_of_le (blk_lt hx5) (s604).size)
            have lb622 := (Nat.lt_of_lt_of_le (blk_lt x63) (s604).size)
            have lb623 := (blk_lt x603)
            have zl624 := (s604).size
            have z617 := ((SG.belowR c67 s604 (fun kq e => by cases e))).size
            refine W.sc (vs := [.agg #[.int .i64 m0, .slice A31 n0 d32], .agg #[.int .i64 a1.id, .int .i64 a1.fr, .int .i64 a1.to, .int .i64 a1.sz]]) rfl rfl (by kernel_rfl) (by kernel_rfl) (by kernel_rfl) rfl (AddPipe_impl m0 A31 n0 d32 a0 a1 _ (own_rd ho612) (by omega) (own_fm ho612)) ?_
            rintro e w626 ⟨A613, d614, rfl, ho615, b625⟩
            have s627 := SG.of_below s604 b625
            refine ⟨_, rfl, s627, ?_⟩
            refine F.nx ?_
            have x603 := (b625.block _ (blk_lt x603)).trans x603
            have ho628 := own_kept ho612 b625
            have ho616 := own_base (base' := w.heap.size) ho615 z617
            have hlr618 := rd_pipes_len (own_rd ho616)
            have nb629 : Nb b2 (.slice A613 ((AddPipe_v0 m0 a0 a1).length) d614) := nb_lo ho615 lb619
            have nb630 : Nb b9 (.slice A613 ((AddPipe_v0 m0 a0 a1).length) d614) := nb_lo ho615 lb620
            have nb631 : Nb g5 (.slice A613 ((AddPipe_v0 m0 a0 a1).length) d614) := nb_lo ho615 lb621
            have nb632 : Nb b48 (.slice A613 ((AddPipe_v0 m0 a0 a1).length) d614) := nb_lo ho615 lb622
            have nb633 : Nb b599 (.slice A613 ((AddPipe_v0 m0 a0 a1).length) d614) := nb_lo ho615 lb623
            have nr634 : NbR (.slice A613 ((AddPipe_v0 m0 a0 a1).length) d614) (.slice A31 n0 d32) := fun j e1 e2 => by have h8 := (World.ownsRow.lt ho615 j e1).1; have h9 := (World.ownsRow.lt ho612 j e2).2; omega
            have sp635 : Sp A5 ((AddPipe_v0 m0 a0 a1).length) (Value.ownBlock (.slice A613 ((AddPipe_v0 m0 a0 a1).length) d614)) := sp_row rd68 ho615 (by omega)
            refine F.mv (v := .tuple #[.agg #[.int .i64 (AddPipe_m0 m0 a0 a1), .slice A613 ((AddPipe_v0 m0 a0 a1).length) d614], .bool (AddPipe_v1 m0 a0 a1)]) (h := ?_)
            refine F.q (v := .agg #[.int .i64 (AddPipe_m0 m0 a0 a1), .slice A613 ((AddPipe_v0 m0 a0 a1).length) d614]) (hr := (r_extract (vs := #[.agg #[.int .i64 (AddPipe_m0 m0 a0 a1), .slice A613 ((AddPipe_v0 m0 a0 a1).length) d614], .bool (AddPipe_v1 m0 a0 a1)]) rfl (ev_any (by kernel_rfl)) (by kernel_rfl))) (h := ?_)
            refine F.q (v := .bool (AddPipe_v1 m0 a0 a1)) (hr := (r_extract (vs := #[.agg #[.int .i64 (AddPipe_m0 m0 a0 a1), .slice A613 ((AddPipe_v0 m0 a0 a1).length) d614], .bool (AddPipe_v1 m0 a0 a1)]) rfl (ev_any (by kernel_rfl)) (by kernel_rfl))) (h := ?_)
            refine W.ss (v := .agg #[.int .i64 (AddPipe_m0 m0 a0 a1), .slice A613 ((AddPipe_v0 m0 a0 a1).length) d614]) (j := 0) (news := [.int .i64 (AddPipe_m0 m0 a0 a1), .slice A613 ((AddPipe_v0 m0 a0 a1).length) d614]) (cs' := #[.int .i64 (AddPipe_m0 m0 a0 a1), .slice A613 ((AddPipe_v0 m0 a0 a1).length) d614]) s627 rfl (by kernel_rfl) rfl rfl (by kernel_rfl) (by kernel_rfl) x603 (by kernel_rfl) (by kernel_rfl) (by simp) (by kernel_rfl) (by kernel_rfl) (.inr (Nat.le_trans (s551).size (Nat.le_of_eq hb601))) (fun w636 g637 x638 s639 => ?_)
            have ho640 := own_grown ho628 g637 (fun j e1 e2 => by cases e2; exact nb611 e1.symm)
            have ho641 := own_grown ho616 g637 (fun j e1 e2 => by cases e2; exact nb633 e1.symm)
            refine F.as (v := .bool (AddPipe_v1 m0 a0 a1)) (h := ?_)
            refine F.endF [(0, .agg #[.int .i64 m0, .slice x0 n0 p0]), (1, .agg #[.int .i64 a1.id, .int .i64 a1.fr, .int .i64 a1.to, .int .i64 a1.sz]), (2, .pointer (some ⟨b2, 0, none⟩)), (3, .pointer (some ⟨b9, 0, none⟩)), (4, .bool false), (5, .int .i64 (szL 1048576 n0)), (6, .pointer (some ⟨g5, 0, none⟩)), (7, .bool (AddPipe_v1 m0 a0 a1)), (8, .pointer (some ⟨b48, 0, none⟩)), (9, .pointer (some ⟨b599, 0, none⟩)), (10, .bool (AddPipe_v1 m0 a0 a1)), (20, .bool false)] (fun U642 => ?_)
            have x5_0 := SG.blk s639 x5_0 (Option.some_ne_none _)
            have x5_1 := SG.blk s639 x5_1 (Option.some_ne_none _)
            have hx5 := SG.blk s639 hx5 (Option.some_ne_none _)
            have x63 := SG.blk s639 x63 (Option.some_ne_none _)
            have c643 := (SG.belowR c67 s639 (fun kq e => by cases e))
            have rd644 := Rd.kept rd68 (SG.below s639)
            exact h34 0 _ _ ⟨A613, d614, b599, (fun iU9 => lk [(0, .agg #[.int .i64 m0, .slice x0 n0 p0]), (1, .agg #[.int .i64 a1.id, .int .i64 a1.fr, .int .i64 a1.to, .int .i64 a1.sz]), (2, .pointer (some ⟨b2, 0, none⟩)), (3, .pointer (some ⟨b9, 0, none⟩)), (4, .bool false), (5, .int .i64 (szL 1048576 n0)), (6, .pointer (some ⟨g5, 0, none⟩)), (7, .bool (AddPipe_v1 m0 a0 a1)), (8, .pointer (some ⟨b48, 0, none⟩)), (9, .pointer (some ⟨b599, 0, none⟩)), (10, .bool (AddPipe_v1 m0 a0 a1)), (20, .bool false)] iU9 (U642 iU9)), (by kernel_rfl), x5_0, x5_1, hx5, x63, ho640, rd644, x638, lo605, ho641, ne607, ne608, ne609, ne610, nb611, nb629, nb630, nb631, nb632, nb633, nr634, sp635, c643⟩
        · refine W.sn (fun b => .pointer (some ⟨b, 0, none⟩)) #[.int .i64 0, .slice none 0 0] 29 s547 rfl (by kernel_rfl) rfl (fun _ => by kernel_rfl) (fun b645 w646 hb647 k648 x649 s650 => ?_)
          refine F.nx ?_
          have lo651 : w.heap.size ≤ b645 := Nat.le_trans ((SG.belowR c67 s547 (fun kq e => by cases e))).size (Nat.le_of_eq hb647)
          have sp652 : Sp A5 ((AddPipe_v0 m0 a0 a1).length) (some b645) := sp_new rd68 (by have := (s547).size; have := hb647; omega)
          have ne653 : b2 ≠ b645 := Nat.ne_of_lt (Nat.lt_of_lt_of_eq (Nat.lt_of_lt_of_le (blk_lt x5_0) (s547).size) hb647)
          have ne654 : b9 ≠ b645 := Nat.ne_of_lt (Nat.lt_of_lt_of_eq (Nat.lt_of_lt_of_le (blk_lt x5_1) (s547).size) hb647)
          have ne655 : g5 ≠ b645 := Nat.ne_of_lt (Nat.lt_of_lt_of_eq (Nat.lt_of_lt_of_le (blk_lt hx5) (s547).size) hb647)
          have ne656 : b48 ≠ b645 := Nat.ne_of_lt (Nat.lt_of_lt_of_eq (Nat.lt_of_lt_of_le (blk_lt x63) (s547).size) hb647)
          have nb657 : Nb b645 (.slice A31 n0 d32) := nb_hi ho548 (Nat.le_of_eq hb647)
          have ho658 := own_kept ho548 k648
          refine W.sc (vs := [.agg #[.int .i64 a1.id, .int .i64 a1.fr, .int .i64 a1.to, .int .i64 a1.sz]]) rfl rfl (by kernel_rfl) (by kernel_rfl) (by kernel_rfl) rfl (toPipe_any a1 _) ?_
          rintro e w660 ⟨rfl, b659⟩
          have s661 := SG.of_below s650 b659
          refine ⟨_, rfl, s661, ?_⟩
          refine F.nx ?_
          have x649 := (b659.block _ (blk_lt x649)).trans x649
          have ho662 := own_kept ho658 b659
          have lb669 := (Nat.lt_of_lt_of_le (blk_lt x5_0) (s661).size)
          have lb670 := (Nat.lt_of_lt_of_le (blk_lt x5_1) (s661).size)
          have lb671 := (Nat.lt_of_lt_of_le (blk_lt hx5) (s661).size)
          have lb672 := (Nat.lt_of_lt_of_le (blk_lt x63) (s661).size)
          have lb673 := (blk_lt x649)
          have zl674 := (s661).size
          have z667 := ((SG.belowR c67 s661 (fun kq e => by cases e))).size
          refine W.sc (vs := [.agg #[.int .i64 m0, .slice A31 n0 d32], .agg #[.int .i64 a1.id, .int .i64 a1.fr, .int .i64 a1.to, .int .i64 a1.sz]]) rfl rfl (by kernel_rfl) (by kernel_rfl) (by kernel_rfl) rfl (AddPipe_impl m0 A31 n0 d32 a0 a1 _ (own_rd ho662) (by omega) (own_fm ho662)) ?_
          rintro e w676 ⟨A663, d664, rfl, ho665, b675⟩
          have s677 := SG.of_below s661 b675
          refine ⟨_, rfl, s677, ?_⟩
          refine F.nx ?_
          have x649 := (b675.block _ (blk_lt x649)).trans x649
          have ho678 := own_kept ho662 b675
          have ho666 := own_base (base' := w.heap.size) ho665 z667
          have hlr668 := rd_pipes_len (own_rd ho666)
          have nb679 : Nb b2 (.slice A663 ((AddPipe_v0 m0 a0 a1).length) d664) := nb_lo ho665 lb669
          have nb680 : Nb b9 (.slice A663 ((AddPipe_v0 m0 a0 a1).length) d664) := nb_lo ho665 lb670
          have nb681 : Nb g5 (.slice A663 ((AddPipe_v0 m0 a0 a1).length) d664) := nb_lo ho665 lb671
          have nb682 : Nb b48 (.slice A663 ((AddPipe_v0 m0 a0 a1).length) d664) := nb_lo ho665 lb672
          have nb683 : Nb b645 (.slice A663 ((AddPipe_v0 m0 a0 a1).length) d664) := nb_lo ho665 lb673
          have nr684 : NbR (.slice A663 ((AddPipe_v0 m0 a0 a1).length) d664) (.slice A31 n0 d32) := fun j e1 e2 => by have h8 := (World.ownsRow.lt ho665 j e1).1; have h9 := (World.ownsRow.lt ho662 j e2).2; omega
          have sp685 : Sp A5 ((AddPipe_v0 m0 a0 a1).length) (Value.ownBlock (.slice A663 ((AddPipe_v0 m0 a0 a1).length) d664)) := sp_row rd68 ho665 (by omega)
          refine F.mv (v := .tuple #[.agg #[.int .i64 (AddPipe_m0 m0 a0 a1), .slice A663 ((AddPipe_v0 m0 a0 a1).length) d664], .bool (AddPipe_v1 m0 a0 a1)]) (h := ?_)
          refine F.q (v := .agg #[.int .i64 (AddPipe_m0 m0 a0 a1), .slice A663 ((AddPipe_v0 m0 a0 a1).length) d664]) (hr := (r_extract (vs := #[.agg #[.int .i64 (AddPipe_m0 m0 a0 a1), .slice A663 ((AddPipe_v0 m0 a0 a1).length) d664], .bool (AddPipe_v1 m0 a0 a1)]) rfl (ev_any (by kernel_rfl)) (by kernel_rfl))) (h := ?_)
          refine F.q (v := .bool (AddPipe_v1 m0 a0 a1)) (hr := (r_extract (vs := #[.agg #[.int .i64 (AddPipe_m0 m0 a0 a1), .slice A663 ((AddPipe_v0 m0 a0 a1).length) d664], .bool (AddPipe_v1 m0 a0 a1)]) rfl (ev_any (by kernel_rfl)) (by kernel_rfl))) (h := ?_)
          refine W.ss (v := .agg #[.int .i64 (AddPipe_m0 m0 a0 a1), .slice A663 ((AddPipe_v0 m0 a0 a1).length) d664]) (j := 0) (news := [.int .i64 (AddPipe_m0 m0 a0 a1), .slice A663 ((AddPipe_v0 m0 a0 a1).length) d664]) (cs' := #[.int .i64 (AddPipe_m0 m0 a0 a1), .slice A663 ((AddPipe_v0 m0 a0 a1).length) d664]) s677 rfl (by kernel_rfl) rfl rfl (by kernel_rfl) (by kernel_rfl) x649 (by kernel_rfl) (by kernel_rfl) (by simp) (by kernel_rfl) (by kernel_rfl) (.inr (Nat.le_trans (s547).size (Nat.le_of_eq hb647))) (fun w686 g687 x688 s689 => ?_)
          have ho690 := own_grown ho678 g687 (fun j e1 e2 => by cases e2; exact nb657 e1.symm)
          have ho691 := own_grown ho666 g687 (fun j e1 e2 => by cases e2; exact nb683 e1.symm)
          refine F.as (v := .bool (AddPipe_v1 m0 a0 a1)) (h := ?_)
          refine F.endF [(0, .agg #[.int .i64 m0, .slice x0 n0 p0]), (1, .agg #[.int .i64 a1.id, .int .i64 a1.fr, .int .i64 a1.to, .int .i64 a1.sz]), (2, .pointer (some ⟨b2, 0, none⟩)), (3, .pointer (some ⟨b9, 0, none⟩)), (4, .bool false), (5, .int .i64 (szL 1048576 n0)), (6, .pointer (some ⟨g5, 0, none⟩)), (7, .bool (AddPipe_v1 m0 a0 a1)), (8, .pointer (some ⟨b48, 0, none⟩)), (9, .pointer (some ⟨b645, 0, none⟩)), (10, .bool (AddPipe_v1 m0 a0 a1)), (20, .bool false)] (fun U692 => ?_)
          have x5_0 := SG.blk s689 x5_0 (Option.some_ne_none _)
          have x5_1 := SG.blk s689 x5_1 (Option.some_ne_none _)
          have hx5 := SG.blk s689 hx5 (Option.some_ne_none _)
          have x63 := SG.blk s689 x63 (Option.some_ne_none _)
          have c693 := (SG.belowR c67 s689 (fun kq e => by cases e))
          have rd694 := Rd.kept rd68 (SG.below s689)
          exact h34 0 _ _ ⟨A663, d664, b645, (fun iU9 => lk [(0, .agg #[.int .i64 m0, .slice x0 n0 p0]), (1, .agg #[.int .i64 a1.id, .int .i64 a1.fr, .int .i64 a1.to, .int .i64 a1.sz]), (2, .pointer (some ⟨b2, 0, none⟩)), (3, .pointer (some ⟨b9, 0, none⟩)), (4, .bool false), (5, .int .i64 (szL 1048576 n0)), (6, .pointer (some ⟨g5, 0, none⟩)), (7, .bool (AddPipe_v1 m0 a0 a1)), (8, .pointer (some ⟨b48, 0, none⟩)), (9, .pointer (some ⟨b645, 0, none⟩)), (10, .bool (AddPipe_v1 m0 a0 a1)), (20, .bool false)] iU9 (U692 iU9)), (by kernel_rfl), x5_0, x5_1, hx5, x63, ho690, rd694, x688, lo651, ho691, ne653, ne654, ne655, ne656, nb657, nb679, nb680, nb681, nb682, nb683, nr684, sp685, c693⟩
      intro K35 h35
      refine W.region_sch (row := none) (Sch.app [(0, false), (2, false)] (.br 1 8 (Sch.app [] (.br 3 8 (Sch.app [] (.br 4 8 (Sch.of [(5, false), (6, false), (7, false), (8, true), (9, true), (10, false)]) (Sch.of [(4, true), (5, false), (6, false), (7, false), (9, true), (10, false)]))) (Sch.of [(3, true), (4, true), (5, false), (6, false), (7, false), (9, true), (10, false)]))) (Sch.of [(1, true), (3, true), (4, true), (5, false), (6, false), (7, false), (9, true), (10, false)]))) (by kernel_rfl) (by kernel_rfl) (fun _ d _ _ _ h => by cases d <;> exact h) (by kernel_rfl) (fun w695 e696 s697 => ?_)
      refine F.q (v := .agg #[.int .i64 m0, .slice x0 n0 p0]) (hr := (r_load2 rfl (ev_any (by kernel_rfl)) (by kernel_rfl) (by kernel_rfl) (sgS (blk_cell (j := 0) x6 (by kernel_rfl)) (Option.some_ne_none _)) (sgS (blk_cell (j := 1) x6 (by kernel_rfl)) (Option.some_ne_none _)))) (h := ?_)
      refine F.q (v := .agg #[.int .i64 a1.id, .int .i64 a1.fr, .int .i64 a1.to, .int .i64 a1.sz]) (hr := (r_load4 rfl (ev_any (by kernel_rfl)) (by kernel_rfl) (by kernel_rfl) (sgS (blk_cell (j := 0) x13 (by kernel_rfl)) (Option.some_ne_none _)) (sgS (blk_cell (j := 1) x13 (by kernel_rfl)) (Option.some_ne_none _)) (sgS (blk_cell (j := 2) x13 (by kernel_rfl)) (Option.some_ne_none _)) (sgS (blk_cell (j := 3) x13 (by kernel_rfl)) (Option.some_ne_none _)))) (h := ?_)
      refine W.sbr ?_ ?_
      · have lb704 := (Nat.lt_of_lt_of_le (blk_lt x6) (s697).size)
        have lb705 := (Nat.lt_of_lt_of_le (blk_lt x13) (s697).size)
        have z702 := ((SG.belowR c25 s697 (fun kq e => by cases e))).size
        refine W.sc (vs := [.agg #[.int .i64 m0, .slice x0 n0 p0]]) rfl rfl (by kernel_rfl) (by kernel_rfl) (by kernel_rfl) rfl (toNetwork_any m0 x0 n0 p0 a0 _ (Rd.kept h0 (SG.belowR c25 s697 (fun kq e => by cases e))) (by omega)) ?_
        rintro e w707 ⟨A698, d699, rfl, ho700, b706⟩
        have s708 := SG.of_below s697 b706
        refine ⟨_, rfl, s708, ?_⟩
        refine F.nx ?_
        have ho701 := own_base (base' := w.heap.size) ho700 z702
        have hlr703 := rd_pipes_len (own_rd ho701)
        have nb709 : Nb b2 (.slice A698 n0 d699) := nb_lo ho700 lb704
        have nb710 : Nb b9 (.slice A698 n0 d699) := nb_lo ho700 lb705
        refine W.sbr ?_ ?_
        · refine W.sc (vs := [.agg #[.int .i64 a1.id, .int .i64 a1.fr, .int .i64 a1.to, .int .i64 a1.sz]]) rfl rfl (by kernel_rfl) (by kernel_rfl) (by kernel_rfl) rfl (toPipe_any a1 _) ?_
          rintro e w712 ⟨rfl, b711⟩
          have s713 := SG.of_below s708 b711
          refine ⟨_, rfl, s713, ?_⟩
          refine F.nx ?_
          have ho714 := own_kept ho701 b711
          refine W.sbr ?_ ?_
          · refine W.sc (vs := [.agg #[.int .i64 m0, .slice A698 n0 d699], .agg #[.int .i64 a1.id, .int .i64 a1.fr, .int .i64 a1.to, .int .i64 a1.sz]]) rfl rfl (by kernel_rfl) (by kernel_rfl) (by kernel_rfl) rfl (AddPipe_spec m0 A698 n0 d699 a0 a1 _ (own_rd ho714) (by omega) (own_fm ho714)) ?_
            rintro e w721 ⟨A715, d716, rfl, rd717, b720⟩
            have s722 := SG.of_below s713 b720
            refine ⟨_, rfl, s722, ?_⟩
            refine F.nx ?_
            have ho723 := own_kept ho714 b720
            have hl718 := rd_pipes_len rd717
            refine F.mv (v := .tuple #[.agg #[.int .i64 (AddPipe_m0 m0 a0 a1), .slice A715 ((AddPipe_v0 m0 a0 a1).length) d716], .bool (AddPipe_v1 m0 a0 a1)]) (h := ?_)
            refine F.q (v := .agg #[.int .i64 (AddPipe_m0 m0 a0 a1), .slice A715 ((AddPipe_v0 m0 a0 a1).length) d716]) (hr := (r_extract (vs := #[.agg #[.int .i64 (AddPipe_m0 m0 a0 a1), .slice A715 ((AddPipe_v0 m0 a0 a1).length) d716], .bool (AddPipe_v1 m0 a0 a1)]) rfl (ev_any (by kernel_rfl)) (by kernel_rfl))) (h := ?_)
            refine F.q (v := .bool (AddPipe_v1 m0 a0 a1)) (hr := (r_extract (vs := #[.agg #[.int .i64 (AddPipe_m0 m0 a0 a1), .slice A715 ((AddPipe_v0 m0 a0 a1).length) d716], .bool (AddPipe_v1 m0 a0 a1)]) rfl (ev_any (by kernel_rfl)) (by kernel_rfl))) (h := ?_)
            refine W.sn (fun b => .pointer (some ⟨b, 0, none⟩)) #[.int .i64 0, .slice none 0 0] 29 s722 rfl (by kernel_rfl) rfl (fun _ => by kernel_rfl) (fun b724 w725 hb726 k727 x728 s729 => ?_)
            refine F.nx ?_
            have lo730 : w.heap.size ≤ b724 := Nat.le_trans ((SG.belowR c25 s722 (fun kq e => by cases e))).size (Nat.le_of_eq hb726)
            have sp731 : Sp A715 ((AddPipe_v0 m0 a0 a1).length) (some b724) := sp_new rd717 (by have := hb726; omega)
            have ne732 : b2 ≠ b724 := Nat.ne_of_lt (Nat.lt_of_lt_of_eq (Nat.lt_of_lt_of_le (blk_lt x6) (s722).size) hb726)
            have ne733 : b9 ≠ b724 := Nat.ne_of_lt (Nat.lt_of_lt_of_eq (Nat.lt_of_lt_of_le (blk_lt x13) (s722).size) hb726)
            have nb734 : Nb b724 (.slice A698 n0 d699) := nb_hi ho723 (Nat.le_of_eq hb726)
            have ho735 := own_kept ho723 k727
            have rd736 := Rd.kept rd717 k727
            refine W.ss (v := .agg #[.int .i64 (AddPipe_m0 m0 a0 a1), .slice A715 ((AddPipe_v0 m0 a0 a1).length) d716]) (j := 0) (news := [.int .i64 (AddPipe_m0 m0 a0 a1), .slice A715 ((AddPipe_v0 m0 a0 a1).length) d716]) (cs' := #[.int .i64 (AddPipe_m0 m0 a0 a1), .slice A715 ((AddPipe_v0 m0 a0 a1).length) d716]) s729 rfl (by kernel_rfl) rfl rfl (by kernel_rfl) (by kernel_rfl) x728 (by kernel_rfl) (by kernel_rfl) (by simp) (by kernel_rfl) (by kernel_rfl) (.inr (Nat.le_trans (s722).size (Nat.le_of_eq hb726))) (fun w737 g738 x739 s740 => ?_)
            have ho741 := own_grown ho735 g738 (fun j e1 e2 => by cases e2; exact nb734 e1.symm)
            have rd742 := rd_sepG rd736 g738 sp731
            refine F.as (v := .bool (AddPipe_v1 m0 a0 a1)) (h := ?_)
            refine F.endF [(0, .agg #[.int .i64 m0, .slice x0 n0 p0]), (1, .agg #[.int .i64 a1.id, .int .i64 a1.fr, .int .i64 a1.to, .int .i64 a1.sz]), (2, .pointer (some ⟨b2, 0, none⟩)), (3, .pointer (some ⟨b9, 0, none⟩)), (4, .bool false), (5, .int .i64 (szL 1048576 n0)), (6, .pointer (some ⟨b724, 0, none⟩)), (7, .bool (AddPipe_v1 m0 a0 a1)), (20, .bool false)] (fun U743 => ?_)
            have x6 := SG.blk s740 x6 (Option.some_ne_none _)
            have x13 := SG.blk s740 x13 (Option.some_ne_none _)
            have c744 := (SG.belowR c25 s740 (fun kq e => by cases e))
            exact h35 0 _ _ ⟨A715, d716, b724, (fun iU9 => lk [(0, .agg #[.int .i64 m0, .slice x0 n0 p0]), (1, .agg #[.int .i64 a1.id, .int .i64 a1.fr, .int .i64 a1.to, .int .i64 a1.sz]), (2, .pointer (some ⟨b2, 0, none⟩)), (3, .pointer (some ⟨b9, 0, none⟩)), (4, .bool false), (5, .int .i64 (szL 1048576 n0)), (6, .pointer (some ⟨b724, 0, none⟩)), (7, .bool (AddPipe_v1 m0 a0 a1)), (20, .bool false)] iU9 (U743 iU9)), (by kernel_rfl), x6, x13, x739, lo730, rd742, ne732, ne733, c744⟩
          · refine W.sn (fun b => .pointer (some ⟨b, 0, none⟩)) #[.int .i64 0, .slice none 0 0] 29 s713 rfl (by kernel_rfl) rfl (fun _ => by kernel_rfl) (fun b745 w746 hb747 k748 x749 s750 => ?_)
            refine F.nx ?_
            have lo751 : w.heap.size ≤ b745 := Nat.le_trans ((SG.belowR c25 s713 (fun kq e => by cases e))).size (Nat.le_of_eq hb747)
            have ne752 : b2 ≠ b745 := Nat.ne_of_lt (Nat.lt_of_lt_of_eq (Nat.lt_of_lt_of_le (blk_lt x6) (s713).size) hb747)
            have ne753 : b9 ≠ b745 := Nat.ne_of_lt (Nat.lt_of_lt_of_eq (Nat.lt_of_lt_of_le (blk_lt x13) (s713).size) hb747)
            have nb754 : Nb b745 (.slice A698 n0 d699) := nb_hi ho714 (Nat.le_of_eq hb747)
            have ho755 := own_kept ho714 k748
            refine W.sc (vs := [.agg #[.int .i64 m0, .slice A698 n0 d699], .agg #[.int .i64 a1.id, .int .i64 a1.fr, .int .i64 a1.to, .int .i64 a1.sz]]) rfl rfl (by kernel_rfl) (by kernel_rfl) (by kernel_rfl) rfl (AddPipe_spec m0 A698 n0 d699 a0 a1 _ (own_rd ho755) (by omega) (own_fm ho755)) ?_
            rintro e w762 ⟨A756, d757, rfl, rd758, b761⟩
            have s763 := SG.of_below s750 b761
            refine ⟨_, rfl, s763, ?_⟩
            refine F.nx ?_
            have x749 := (b761.block _ (blk_lt x749)).trans x749
            have ho764 := own_kept ho755 b761
            have hl759 := rd_pipes_len rd758
            have sp765 := sp_small rd758 x749 (by decide)
            refine F.mv (v := .tuple #[.agg #[.int .i64 (AddPipe_m0 m0 a0 a1), .slice A756 ((AddPipe_v0 m0 a0 a1).length) d757], .bool (AddPipe_v1 m0 a0 a1)]) (h := ?_)
            refine F.q (v := .agg #[.int .i64 (AddPipe_m0 m0 a0 a1), .slice A756 ((AddPipe_v0 m0 a0 a1).length) d757]) (hr := (r_extract (vs := #[.agg #[.int .i64 (AddPipe_m0 m0 a0 a1), .slice A756 ((AddPipe_v0 m0 a0 a1).length) d757], .bool (AddPipe_v1 m0 a0 a1)]) rfl (ev_any (by kernel_rfl)) (by kernel_rfl))) (h := ?_)
            refine F.q (v := .bool (AddPipe_v1 m0 a0 a1)) (hr := (r_extract (vs := #[.agg #[.int .i64 (AddPipe_m0 m0 a0 a1), .slice A756 ((AddPipe_v0 m0 a0 a1).length) d757], .bool (AddPipe_v1 m0 a0 a1)]) rfl (ev_any (by kernel_rfl)) (by kernel_rfl))) (h := ?_)
            refine W.ss (v := .agg #[.int .i64 (AddPipe_m0 m0 a0 a1), .slice A756 ((AddPipe_v0 m0 a0 a1).length) d757]) (j := 0) (news := [.int .i64 (AddPipe_m0 m0 a0 a1), .slice A756 ((AddPipe_v0 m0 a0 a1).length) d757]) (cs' := #[.int .i64 (AddPipe_m0 m0 a0 a1), .slice A756 ((AddPipe_v0 m0 a0 a1).length) d757]) s763 rfl (by kernel_rfl) rfl rfl (by kernel_rfl) (by kernel_rfl) x749 (by kernel_rfl) (by kernel_rfl) (by simp) (by kernel_rfl) (by kernel_rfl) (.inr (Nat.le_trans (s713).size (Nat.le_of_eq hb747))) (fun w766 g767 x768 s769 => ?_)
            have ho770 := own_grown ho764 g767 (fun j e1 e2 => by cases e2; exact nb754 e1.symm)
            have rd771 := rd_sepG rd758 g767 sp765
            refine F.as (v := .bool (AddPipe_v1 m0 a0 a1)) (h := ?_)
            refine F.endF [(0, .agg #[.int .i64 m0, .slice x0 n0 p0]), (1, .agg #[.int .i64 a1.id, .int .i64 a1.fr, .int .i64 a1.to, .int .i64 a1.sz]), (2, .pointer (some ⟨b2, 0, none⟩)), (3, .pointer (some ⟨b9, 0, none⟩)), (4, .bool false), (5, .int .i64 (szL 1048576 n0)), (6, .pointer (some ⟨b745, 0, none⟩)), (7, .bool (AddPipe_v1 m0 a0 a1)), (20, .bool false)] (fun U772 => ?_)
            have x6 := SG.blk s769 x6 (Option.some_ne_none _)
            have x13 := SG.blk s769 x13 (Option.some_ne_none _)
            have c773 := (SG.belowR c25 s769 (fun kq e => by cases e))
            exact h35 0 _ _ ⟨A756, d757, b745, (fun iU9 => lk [(0, .agg #[.int .i64 m0, .slice x0 n0 p0]), (1, .agg #[.int .i64 a1.id, .int .i64 a1.fr, .int .i64 a1.to, .int .i64 a1.sz]), (2, .pointer (some ⟨b2, 0, none⟩)), (3, .pointer (some ⟨b9, 0, none⟩)), (4, .bool false), (5, .int .i64 (szL 1048576 n0)), (6, .pointer (some ⟨b745, 0, none⟩)), (7, .bool (AddPipe_v1 m0 a0 a1)), (20, .bool false)] iU9 (U772 iU9)), (by kernel_rfl), x6, x13, x768, lo751, rd771, ne752, ne753, c773⟩
        · refine W.sn (fun b => .pointer (some ⟨b, 0, none⟩)) #[.int .i64 0, .slice none 0 0] 29 s708 rfl (by kernel_rfl) rfl (fun _ => by kernel_rfl) (fun b774 w775 hb776 k777 x778 s779 => ?_)
          refine F.nx ?_
          have lo780 : w.heap.size ≤ b774 := Nat.le_trans ((SG.belowR c25 s708 (fun kq e => by cases e))).size (Nat.le_of_eq hb776)
          have ne781 : b2 ≠ b774 := Nat.ne_of_lt (Nat.lt_of_lt_of_eq (Nat.lt_of_lt_of_le (blk_lt x6) (s708).size) hb776)
          have ne782 : b9 ≠ b774 := Nat.ne_of_lt (Nat.lt_of_lt_of_eq (Nat.lt_of_lt_of_le (blk_lt x13) (s708).size) hb776)
          have nb783 : Nb b774 (.slice A698 n0 d699) := nb_hi ho701 (Nat.le_of_eq hb776)
          have ho784 := own_kept ho701 k777
          refine W.sc (vs := [.agg #[.int .i64 a1.id, .int .i64 a1.fr, .int .i64 a1.to, .int .i64 a1.sz]]) rfl rfl (by kernel_rfl) (by kernel_rfl) (by kernel_rfl) rfl (toPipe_any a1 _) ?_
          rintro e w786 ⟨rfl, b785⟩
          have s787 := SG.of_below s779 b785
          refine ⟨_, rfl, s787, ?_⟩
          refine F.nx ?_
          have x778 := (b785.block _ (blk_lt x778)).trans x778
          have ho788 := own_kept ho784 b785
          refine W.sc (vs := [.agg #[.int .i64 m0, .slice A698 n0 d699], .agg #[.int .i64 a1.id, .int .i64 a1.fr, .int .i64 a1.to, .int .i64 a1.sz]]) rfl rfl (by kernel_rfl) (by kernel_rfl) (by kernel_rfl) rfl (AddPipe_spec m0 A698 n0 d699 a0 a1 _ (own_rd ho788) (by omega) (own_fm ho788)) ?_
          rintro e w795 ⟨A789, d790, rfl, rd791, b794⟩
          have s796 := SG.of_below s787 b794
          refine ⟨_, rfl, s796, ?_⟩
          refine F.nx ?_
          have x778 := (b794.block _ (blk_lt x778)).trans x778
          have ho797 := own_kept ho788 b794
          have hl792 := rd_pipes_len rd791
          have sp798 := sp_small rd791 x778 (by decide)
          refine F.mv (v := .tuple #[.agg #[.int .i64 (AddPipe_m0 m0 a0 a1), .slice A789 ((AddPipe_v0 m0 a0 a1).length) d790], .bool (AddPipe_v1 m0 a0 a1)]) (h := ?_)
          refine F.q (v := .agg #[.int .i64 (AddPipe_m0 m0 a0 a1), .slice A789 ((AddPipe_v0 m0 a0 a1).length) d790]) (hr := (r_extract (vs := #[.agg #[.int .i64 (AddPipe_m0 m0 a0 a1), .slice A789 ((AddPipe_v0 m0 a0 a1).length) d790], .bool (AddPipe_v1 m0 a0 a1)]) rfl (ev_any (by kernel_rfl)) (by kernel_rfl))) (h := ?_)
          refine F.q (v := .bool (AddPipe_v1 m0 a0 a1)) (hr := (r_extract (vs := #[.agg #[.int .i64 (AddPipe_m0 m0 a0 a1), .slice A789 ((AddPipe_v0 m0 a0 a1).length) d790], .bool (AddPipe_v1 m0 a0 a1)]) rfl (ev_any (by kernel_rfl)) (by kernel_rfl))) (h := ?_)
          refine W.ss (v := .agg #[.int .i64 (AddPipe_m0 m0 a0 a1), .slice A789 ((AddPipe_v0 m0 a0 a1).length) d790]) (j := 0) (news := [.int .i64 (AddPipe_m0 m0 a0 a1), .slice A789 ((AddPipe_v0 m0 a0 a1).length) d790]) (cs' := #[.int .i64 (AddPipe_m0 m0 a0 a1), .slice A789 ((AddPipe_v0 m0 a0 a1).length) d790]) s796 rfl (by kernel_rfl) rfl rfl (by kernel_rfl) (by kernel_rfl) x778 (by kernel_rfl) (by kernel_rfl) (by simp) (by kernel_rfl) (by kernel_rfl) (.inr (Nat.le_trans (s708).size (Nat.le_of_eq hb776))) (fun w799 g800 x801 s802 => ?_)
          have ho803 := own_grown ho797 g800 (fun j e1 e2 => by cases e2; exact nb783 e1.symm)
          have rd804 := rd_sepG rd791 g800 sp798
          refine F.as (v := .bool (AddPipe_v1 m0 a0 a1)) (h := ?_)
          refine F.endF [(0, .agg #[.int .i64 m0, .slice x0 n0 p0]), (1, .agg #[.int .i64 a1.id, .int .i64 a1.fr, .int .i64 a1.to, .int .i64 a1.sz]), (2, .pointer (some ⟨b2, 0, none⟩)), (3, .pointer (some ⟨b9, 0, none⟩)), (4, .bool false), (5, .int .i64 (szL 1048576 n0)), (6, .pointer (some ⟨b774, 0, none⟩)), (7, .bool (AddPipe_v1 m0 a0 a1)), (20, .bool false)] (fun U805 => ?_)
          have x6 := SG.blk s802 x6 (Option.some_ne_none _)
          have x13 := SG.blk s802 x13 (Option.some_ne_none _)
          have c806 := (SG.belowR c25 s802 (fun kq e => by cases e))
          exact h35 0 _ _ ⟨A789, d790, b774, (fun iU9 => lk [(0, .agg #[.int .i64 m0, .slice x0 n0 p0]), (1, .agg #[.int .i64 a1.id, .int .i64 a1.fr, .int .i64 a1.to, .int .i64 a1.sz]), (2, .pointer (some ⟨b2, 0, none⟩)), (3, .pointer (some ⟨b9, 0, none⟩)), (4, .bool false), (5, .int .i64 (szL 1048576 n0)), (6, .pointer (some ⟨b774, 0, none⟩)), (7, .bool (AddPipe_v1 m0 a0 a1)), (20, .bool false)] iU9 (U805 iU9)), (by kernel_rfl), x6, x13, x801, lo780, rd804, ne781, ne782, c806⟩
      · refine W.sn (fun b => .pointer (some ⟨b, 0, none⟩)) #[.int .i64 0, .slice none 0 0] 29 s697 rfl (by kernel_rfl) rfl (fun _ => by kernel_rfl) (fun b807 w808 hb809 k810 x811 s812 => ?_)
        refine F.nx ?_
        have lo813 : w.heap.size ≤ b807 := Nat.le_trans ((SG.belowR c25 s697 (fun kq e => by cases e))).size (Nat.le_of_eq hb809)
        have ne814 : b2 ≠ b807 := Nat.ne_of_lt (Nat.lt_of_lt_of_eq (Nat.lt_of_lt_of_le (blk_lt x6) (s697).size) hb809)
        have ne815 : b9 ≠ b807 := Nat.ne_of_lt (Nat.lt_of_lt_of_eq (Nat.lt_of_lt_of_le (blk_lt x13) (s697).size) hb809)
        have lb822 := (Nat.lt_of_lt_of_le (blk_lt x6) (s812).size)
        have lb823 := (Nat.lt_of_lt_of_le (blk_lt x13) (s812).size)
        have lb824 := (blk_lt x811)
        have z820 := ((SG.belowR c25 s812 (fun kq e => by cases e))).size
        refine W.sc (vs := [.agg #[.int .i64 m0, .slice x0 n0 p0]]) rfl rfl (by kernel_rfl) (by kernel_rfl) (by kernel_rfl) rfl (toNetwork_any m0 x0 n0 p0 a0 _ (Rd.kept h0 (SG.belowR c25 s812 (fun kq e => by cases e))) (by omega)) ?_
        rintro e w826 ⟨A816, d817, rfl, ho818, b825⟩
        have s827 := SG.of_below s812 b825
        refine ⟨_, rfl, s827, ?_⟩
        refine F.nx ?_
        have x811 := (b825.block _ (blk_lt x811)).trans x811
        have ho819 := own_base (base' := w.heap.size) ho818 z820
        have hlr821 := rd_pipes_len (own_rd ho819)
        have nb828 : Nb b2 (.slice A816 n0 d817) := nb_lo ho818 lb822
        have nb829 : Nb b9 (.slice A816 n0 d817) := nb_lo ho818 lb823
        have nb830 : Nb b807 (.slice A816 n0 d817) := nb_lo ho818 lb824
        refine W.sc (vs := [.agg #[.int .i64 a1.id, .int .i64 a1.fr, .int .i64 a1.to, .int .i64 a1.sz]]) rfl rfl (by kernel_rfl) (by kernel_rfl) (by kernel_rfl) rfl (toPipe_any a1 _) ?_
        rintro e w832 ⟨rfl, b831⟩
        have s833 := SG.of_below s827 b831
        refine ⟨_, rfl, s833, ?_⟩
        refine F.nx ?_
        have x811 := (b831.block _ (blk_lt x811)).trans x811
        have ho834 := own_kept ho819 b831
        refine W.sc (vs := [.agg #[.int .i64 m0, .slice A816 n0 d817], .agg #[.int .i64 a1.id, .int .i64 a1.fr, .int .i64 a1.to, .int .i64 a1.sz]]) rfl rfl (by kernel_rfl) (by kernel_rfl) (by kernel_rfl) rfl (AddPipe_spec m0 A816 n0 d817 a0 a1 _ (own_rd ho834) (by omega) (own_fm ho834)) ?_
        rintro e w841 ⟨A835, d836, rfl, rd837, b840⟩
        have s842 := SG.of_below s833 b840
        refine ⟨_, rfl, s842, ?_⟩
        refine F.nx ?_
        have x811 := (b840.block _ (blk_lt x811)).trans x811
        have ho843 := own_kept ho834 b840
        have hl838 := rd_pipes_len rd837
        have sp844 := sp_small rd837 x811 (by decide)
        refine F.mv (v := .tuple #[.agg #[.int .i64 (AddPipe_m0 m0 a0 a1), .slice A835 ((AddPipe_v0 m0 a0 a1).length) d836], .bool (AddPipe_v1 m0 a0 a1)]) (h := ?_)
        refine F.q (v := .agg #[.int .i64 (AddPipe_m0 m0 a0 a1), .slice A835 ((AddPipe_v0 m0 a0 a1).length) d836]) (hr := (r_extract (vs := #[.agg #[.int .i64 (AddPipe_m0 m0 a0 a1), .slice A835 ((AddPipe_v0 m0 a0 a1).length) d836], .bool (AddPipe_v1 m0 a0 a1)]) rfl (ev_any (by kernel_rfl)) (by kernel_rfl))) (h := ?_)
        refine F.q (v := .bool (AddPipe_v1 m0 a0 a1)) (hr := (r_extract (vs := #[.agg #[.int .i64 (AddPipe_m0 m0 a0 a1), .slice A835 ((AddPipe_v0 m0 a0 a1).length) d836], .bool (AddPipe_v1 m0 a0 a1)]) rfl (ev_any (by kernel_rfl)) (by kernel_rfl))) (h := ?_)
        refine W.ss (v := .agg #[.int .i64 (AddPipe_m0 m0 a0 a1), .slice A835 ((AddPipe_v0 m0 a0 a1).length) d836]) (j := 0) (news := [.int .i64 (AddPipe_m0 m0 a0 a1), .slice A835 ((AddPipe_v0 m0 a0 a1).length) d836]) (cs' := #[.int .i64 (AddPipe_m0 m0 a0 a1), .slice A835 ((AddPipe_v0 m0 a0 a1).length) d836]) s842 rfl (by kernel_rfl) rfl rfl (by kernel_rfl) (by kernel_rfl) x811 (by kernel_rfl) (by kernel_rfl) (by simp) (by kernel_rfl) (by kernel_rfl) (.inr (Nat.le_trans (s697).size (Nat.le_of_eq hb809))) (fun w845 g846 x847 s848 => ?_)
        have ho849 := own_grown ho843 g846 (fun j e1 e2 => by cases e2; exact nb830 e1.symm)
        have rd850 := rd_sepG rd837 g846 sp844
        refine F.as (v := .bool (AddPipe_v1 m0 a0 a1)) (h := ?_)
        refine F.endF [(0, .agg #[.int .i64 m0, .slice x0 n0 p0]), (1, .agg #[.int .i64 a1.id, .int .i64 a1.fr, .int .i64 a1.to, .int .i64 a1.sz]), (2, .pointer (some ⟨b2, 0, none⟩)), (3, .pointer (some ⟨b9, 0, none⟩)), (4, .bool false), (5, .int .i64 (szL 1048576 n0)), (6, .pointer (some ⟨b807, 0, none⟩)), (7, .bool (AddPipe_v1 m0 a0 a1)), (20, .bool false)] (fun U851 => ?_)
        have x6 := SG.blk s848 x6 (Option.some_ne_none _)
        have x13 := SG.blk s848 x13 (Option.some_ne_none _)
        have c852 := (SG.belowR c25 s848 (fun kq e => by cases e))
        exact h35 0 _ _ ⟨A835, d836, b807, (fun iU9 => lk [(0, .agg #[.int .i64 m0, .slice x0 n0 p0]), (1, .agg #[.int .i64 a1.id, .int .i64 a1.fr, .int .i64 a1.to, .int .i64 a1.sz]), (2, .pointer (some ⟨b2, 0, none⟩)), (3, .pointer (some ⟨b9, 0, none⟩)), (4, .bool false), (5, .int .i64 (szL 1048576 n0)), (6, .pointer (some ⟨b807, 0, none⟩)), (7, .bool (AddPipe_v1 m0 a0 a1)), (20, .bool false)] iU9 (U851 iU9)), (by kernel_rfl), x6, x13, x847, lo813, rd850, ne814, ne815, c852⟩

end Go.Proofs.Ytmfapokolgnnhaa
