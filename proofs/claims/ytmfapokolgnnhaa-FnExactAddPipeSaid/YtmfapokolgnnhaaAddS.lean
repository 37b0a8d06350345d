/- AddPipe: the reference. -/
import Derived.Test.YtmfapokolgnnhaaAddP
import Derived.Test.YtmfapokolgnnhaaFind
import Derived.Test.YtmfapokolgnnhaaFinN
import Derived.Test.YtmfapokolgnnhaaRes
import Derived.Test.YtmfapokolgnnhaaCurP
import Derived.Test.YtmfapokolgnnhaaJoinK
import Derived.Test.YtmfapokolgnnhaaFr
namespace Go.Proofs.Ytmfapokolgnnhaa
open Go.RowKit
set_option linter.unusedVariables false
set_option linter.unusedSimpArgs false

set_option maxRecDepth 100000 in
set_option maxHeartbeats 8000000 in
theorem AddPipe_spec (m : Int) (A : Option Addr) (n c : Nat) (ps : List Pp) (x : Pp) (w : World) (ha : Rd w 4 A n (pipesV ps)) (hn : n ≤ 1048576) (hf : Fm A n c) :
    Calls Try.prog 33 #[.agg #[.int .i64 m, .slice A n c], .agg #[.int .i64 x.id, .int .i64 x.fr, .int .i64 x.to, .int .i64 x.sz]] w fun e w' => ∃ A' d, e = .returned (.tuple #[.agg #[.int .i64 (AddPipe_m0 m ps x), .slice A' (AddPipe_v0 m ps x).length d], .bool (AddPipe_v1 m ps x)]) ∧ Rd w' 4 A' (AddPipe_v0 m ps x).length (pipesV (AddPipe_v0 m ps x)) ∧ Below w.heap.size w w' := by
  have hl := rd_pipes_len ha
  go_enter Try.func33, Try.ntmps33
  refine wp_seq_k (fun K1 h1 => ?_)
  refine W.region_plain (row := none) [(0, true), (1, true), (2, true), (3, false)] (by kernel_rfl) ?_
  have s1 := SG.self w none
  refine W.sn (fun b => .pointer (some ⟨b, 0, none⟩)) #[.int .i64 m, .slice A n c] 29 s1 rfl (by kernel_rfl) rfl (fun _ => by kernel_rfl) (fun b2 w3 hb4 k5 x6 s7 => ?_)
  have lo8 : w.heap.size ≤ b2 := Nat.le_trans ((SG.belowR (Below.refl _ _) s1 (fun kq e => by cases e))).size (Nat.le_of_eq hb4)
  refine W.sn (fun b => .pointer (some ⟨b, 0, none⟩)) #[.int .i64 x.id, .int .i64 x.fr, .int .i64 x.to, .int .i64 x.sz] 50 s7 rfl (by kernel_rfl) rfl (fun _ => by kernel_rfl) (fun b9 w10 hb11 k12 x13 s14 => ?_)
  have lo15 : w.heap.size ≤ b9 := Nat.le_trans ((SG.belowR (Below.refl _ _) s7 (fun kq e => by cases e))).size (Nat.le_of_eq hb11)
  have ne16 : b2 ≠ b9 := Nat.ne_of_lt (Nat.lt_of_lt_of_eq (blk_lt x6) hb11)
  have x6 := (k12.block _ (blk_lt x6)).trans x6
  refine W.sn (fun b => .pointer (some ⟨b, 0, none⟩)) #[.int .i64 0, .slice none 0 0] 29 s14 rfl (by kernel_rfl) rfl (fun _ => by kernel_rfl) (fun b17 w18 hb19 k20 x21 s22 => ?_)
  have lo23 : w.heap.size ≤ b17 := Nat.le_trans ((SG.belowR (Below.refl _ _) s14 (fun kq e => by cases e))).size (Nat.le_of_eq hb19)
  have ne24 : b2 ≠ b17 := Nat.ne_of_lt (Nat.lt_of_lt_of_eq (blk_lt x6) hb19)
  have ne25 : b9 ≠ b17 := Nat.ne_of_lt (Nat.lt_of_lt_of_eq (blk_lt x13) hb19)
  have x6 := (k20.block _ (blk_lt x6)).trans x6
  have x13 := (k20.block _ (blk_lt x13)).trans x13
  refine W.as (v := .bool false) (h := ?_)
  refine W.endF 59 [(0, .agg #[.int .i64 m, .slice A n c]), (1, .agg #[.int .i64 x.id, .int .i64 x.fr, .int .i64 x.to, .int .i64 x.sz]), (2, .pointer (some ⟨b2, 0, none⟩)), (3, .pointer (some ⟨b9, 0, none⟩)), (4, .pointer (some ⟨b17, 0, none⟩)), (5, .bool false)] (fun U26 => ?_)
  have c27 := (SG.belowR (Below.refl _ _) s22 (fun kq e => by cases e))
  refine h1 _ _ ?_
  refine wp_seq_k (fun K2 h2 => ?_)
  refine wp_seq_k (fun K3 h3 => ?_)
  refine W.region_plain (row := none) [(0, false), (1, true), (2, false), (3, false), (4, false), (5, false), (6, false), (7, true), (8, false), (9, false)] (by kernel_rfl) ?_
  have s28 := SG.self w18 none
  refine F.q (v := .agg #[.int .i64 m, .slice A n c]) (hr := (r_load2 rfl (ev_any (by kernel_rfl)) (by kernel_rfl) (by kernel_rfl) (sgS (blk_cell (j := 0) x6 (by kernel_rfl)) (Option.some_ne_none _)) (sgS (blk_cell (j := 1) x6 (by kernel_rfl)) (Option.some_ne_none _)))) (h := ?_)
  refine W.sc (vs := [.agg #[.int .i64 m, .slice A n c]]) rfl rfl (by kernel_rfl) (by kernel_rfl) (by kernel_rfl) rfl (l2Good_any m A n c ps _ (Rd.kept ha (SG.belowR c27 s28 (fun kq e => by cases e))) (by omega)) ?_
  rintro e w30 ⟨rfl, b29⟩
  have s31 := SG.of_below s28 b29
  refine ⟨_, rfl, s31, ?_⟩
  refine F.nx ?_
  rcases Bool.eq_false_or_eq_true (goodN m ps) with q32 | q32
  · rw [q32]
    have hgl33 := (good_of q32).len
    refine F.q (v := .bool false) (hr := (r_not (b := true) rfl (ev_any (by kernel_rfl)) rfl)) (h := ?_)
    refine F.mv (v := .bool false) (h := ?_)
    refine F.q (v := .agg #[.int .i64 m, .slice A n c]) (hr := (r_load2 rfl (ev_any (by kernel_rfl)) (by kernel_rfl) (by kernel_rfl) (sgS (blk_cell (j := 0) x6 (by kernel_rfl)) (Option.some_ne_none _)) (sgS (blk_cell (j := 1) x6 (by kernel_rfl)) (Option.some_ne_none _)))) (h := ?_)
    refine F.q (v := .pointer (some ⟨b9, 0, none⟩)) (hr := (r_field0 rfl (ev_any (by kernel_rfl)) (by kernel_rfl))) (h := ?_)
    refine F.ld (v := .int .i64 x.id) (hc := (sgS (blk_cell (j := 0) x13 (by kernel_rfl)) (Option.some_ne_none _))) (h := ?_)
    refine W.sc (vs := [.agg #[.int .i64 m, .slice A n c], .int .i64 x.id]) rfl rfl (by kernel_rfl) (by kernel_rfl) (by kernel_rfl) rfl (l2Find_any m A n c ps x.id _ (Rd.kept ha (SG.belowR c27 s31 (fun kq e => by cases e))) (by omega)) ?_
    rintro e w35 ⟨rfl, b34⟩
    have s36 := SG.of_below s31 b34
    refine ⟨_, rfl, s36, ?_⟩
    refine F.nx ?_
    by_cases q37 : (findL ps x.id : Int) ≥ (0 : Int)
    · refine F.q (v := .bool true) (hr := (r_geq (m := findL ps x.id) (n := 0) rfl (ev_any (by kernel_rfl)) (ev_any (by kernel_rfl)) (decide_eq_true q37))) (h := ?_)
      refine F.q (v := .bool true) (hr := (r_pick (b := false) rfl (ev_any (by kernel_rfl)) (ev_any (by kernel_rfl)))) (h := ?_)
      refine F.endF [(0, .agg #[.int .i64 m, .slice A n c]), (1, .agg #[.int .i64 x.id, .int .i64 x.fr, .int .i64 x.to, .int .i64 x.sz]), (2, .pointer (some ⟨b2, 0, none⟩)), (3, .pointer (some ⟨b9, 0, none⟩)), (4, .pointer (some ⟨b17, 0, none⟩)), (5, .bool false), (17, .bool true)] (fun U38 => ?_)
      have x6 := SG.blk s36 x6 (Option.some_ne_none _)
      have x13 := SG.blk s36 x13 (Option.some_ne_none _)
      have x21 := SG.blk s36 x21 (Option.some_ne_none _)
      have c39 := (SG.belowR c27 s36 (fun kq e => by cases e))
      refine h3 _ _ ?_
      refine wp_cond_true (by kernel_rfl) ?_
      refine wp_seq_k (fun K4 h4 => ?_)
      refine W.region_plain (row := (some b17)) [(0, false), (1, true), (2, false)] (by kernel_rfl) ?_
      have s40 := SG.self w35 (some b17)
      refine F.q (v := .agg #[.int .i64 0, .slice none 0 0]) (hr := (r_build rfl (vs := []) (by kernel_rfl) (by kernel_rfl))) (h := ?_)
      refine W.ss (v := .agg #[.int .i64 0, .slice none 0 0]) (j := 0) (news := [.int .i64 0, .slice none 0 0]) (cs' := #[.int .i64 0, .slice none 0 0]) s40 rfl (by kernel_rfl) rfl rfl (by kernel_rfl) (by kernel_rfl) x21 (by kernel_rfl) (by kernel_rfl) (by simp) (by kernel_rfl) (by kernel_rfl) (.inl rfl) (fun w41 g42 x43 s44 => ?_)
      refine F.as (v := .bool false) (h := ?_)
      refine F.endF [(0, .agg #[.int .i64 m, .slice A n c]), (1, .agg #[.int .i64 x.id, .int .i64 x.fr, .int .i64 x.to, .int .i64 x.sz]), (2, .pointer (some ⟨b2, 0, none⟩)), (3, .pointer (some ⟨b9, 0, none⟩)), (4, .pointer (some ⟨b17, 0, none⟩)), (5, .bool false), (17, .bool true)] (fun U45 => ?_)
      have x6 := SG.blk s44 x6 (fun e9 => ne24 (Option.some.inj e9))
      have x13 := SG.blk s44 x13 (fun e9 => ne25 (Option.some.inj e9))
      have c46 := (SG.belowR c39 s44 (fun kq e => by cases e; exact lo23))
      refine h4 _ _ ?_
      as_aux_lemma =>
        refine wp_ret ?_
        try simp only [Exit.then]
        refine retCT (x := .bool false) rfl (by kernel_rfl) (by kernel_rfl) (by kernel_rfl) (by kernel_rfl) x43 ?_
        exact fin_rdn (rd_none4 _) (add_two (by omega)).2.2.symm (add_two (by omega)).2.1.symm (add_two (by omega)).1.symm c46
    · refine F.q (v := .bool false) (hr := (r_geq (m := findL ps x.id) (n := 0) rfl (ev_any (by kernel_rfl)) (ev_any (by kernel_rfl)) (decide_eq_false q37))) (h := ?_)
      refine F.q (v := .bool false) (hr := (r_pick (b := false) rfl (ev_any (by kernel_rfl)) (ev_any (by kernel_rfl)))) (h := ?_)
      refine F.endF [(0, .agg #[.int .i64 m, .slice A n c]), (1, .agg #[.int .i64 x.id, .int .i64 x.fr, .int .i64 x.to, .int .i64 x.sz]), (2, .pointer (some ⟨b2, 0, none⟩)), (3, .pointer (some ⟨b9, 0, none⟩)), (4, .pointer (some ⟨b17, 0, none⟩)), (5, .bool false), (17, .bool false)] (fun U47 => ?_)
      have x6 := SG.blk s36 x6 (Option.some_ne_none _)
      have x13 := SG.blk s36 x13 (Option.some_ne_none _)
      have x21 := SG.blk s36 x21 (Option.some_ne_none _)
      have c48 := (SG.belowR c27 s36 (fun kq e => by cases e))
      refine h3 _ _ ?_
      refine wp_cond_false (by kernel_rfl) ?_
      refine wp_skip ?_
      refine h2 _ _ ?_
      refine wp_seq_k (fun K5 h5 => ?_)
      refine W.region_quiet [(0, false)] (by kernel_rfl) ?_
      refine F.as (v := .int .i64 0) (h := ?_)
      refine F.endF [(0, .agg #[.int .i64 m, .slice A n c]), (1, .agg #[.int .i64 x.id, .int .i64 x.fr, .int .i64 x.to, .int .i64 x.sz]), (2, .pointer (some ⟨b2, 0, none⟩)), (3, .pointer (some ⟨b9, 0, none⟩)), (4, .pointer (some ⟨b17, 0, none⟩)), (5, .bool false), (6, .int .i64 0), (17, .bool false)] (fun U49 => ?_)
      refine h5 _ _ ?_
      refine joinK (fun amj1 aaj1 wlj1 => ∃ (k2 : Nat) (Uj1 : Nat → Value), aaj1 = ⟨(fr Uj1 [(2, .pointer (some ⟨b2, 0, none⟩)), (3, .pointer (some ⟨b9, 0, none⟩)), (4, .pointer (some ⟨b17, 0, none⟩)), (5, .bool false), (6, .int .i64 ((k2 : Nat) : Int))] 59 0).toArray, []⟩ ∧ (amj1 = 0) ∧ (k2 ≤ n) ∧ (insAtP ps x.id = k2) ∧ (wlj1.heap[b2]? = some (.cells #[.int .i64 m, .slice A n c] 29 (0, 0))) ∧ (wlj1.heap[b9]? = some (.cells #[.int .i64 x.id, .int .i64 x.fr, .int .i64 x.to, .int .i64 x.sz] 50 (0, 0))) ∧ (wlj1.heap[b17]? = some (.cells #[.int .i64 0, .slice none 0 0] 29 (0, 0))) ∧ (Below w.heap.size w wlj1)) ?_ ?_
      · rintro amj1 aaj1 wlj1 ⟨k2, Uj1, rfl, rfl, hk2, hkk, x6, x13, x21, c50⟩
        refine joinK (fun _ aa7 wl7 => ∃ (A7 : Option Addr) (n7 c7 g7 : Nat) (U7 : Nat → Value), aa7 = ⟨(fr U7 [(2, .pointer (some ⟨b2, 0, none⟩)), (3, .pointer (some ⟨b9, 0, none⟩)), (4, .pointer (some ⟨b17, 0, none⟩)), (5, .bool false), (6, .int .i64 ((k2 : Nat) : Int)), (7, .pointer (some ⟨g7, 0, none⟩))] 59 0).toArray, []⟩ ∧ (wl7.heap[b2]? = some (.cells #[.int .i64 m, .slice A n c] 29 (0, 0))) ∧ (wl7.heap[b9]? = some (.cells #[.int .i64 x.id, .int .i64 x.fr, .int .i64 x.to, .int .i64 x.sz] 50 (0, 0))) ∧ (wl7.heap[b17]? = some (.cells #[.int .i64 0, .slice none 0 0] 29 (0, 0))) ∧ (wl7.heap[g7]? = some (.cells #[.int .i64 m, .slice A7 n7 c7] 29 (0, 0))) ∧ (w.heap.size ≤ g7) ∧ (wl7.ownsRow w.heap.size 50 4 (.slice A7 n7 c7) n7 (pipesV (ps.take k2 ++ [x] ++ ps.drop k2))) ∧ (n7 ≤ n + 1) ∧ (Nb b2 (.slice A7 n7 c7)) ∧ (Nb b9 (.slice A7 n7 c7)) ∧ (Nb b17 (.slice A7 n7 c7)) ∧ (Nb g7 (.slice A7 n7 c7)) ∧ (b2 ≠ g7) ∧ (b9 ≠ g7) ∧ (b17 ≠ g7) ∧ (Below w.heap.size w wl7)) ?_ ?_
        · rintro am7 aa7 wl7 ⟨A7, n7, c7, g7, U7, rfl, x6, x13, x21, hx7, hlo7, ho7, hn7, nb7_0, nb7_1, nb7_2, nb7_g, ne7_0, ne7_1, ne7_2, c7b⟩
          refine wp_seq_k (fun K6 h6 => ?_)
          refine wp_seq_k (fun K7 h7 => ?_)
          refine W.region_plain (row := none) [(0, false), (1, true), (2, false)] (by kernel_rfl) ?_
          have s51 := SG.self wl7 none
          refine F.q (v := .agg #[.int .i64 m, .slice A7 n7 c7]) (hr := (r_load2 rfl (ev_any (by kernel_rfl)) (by kernel_rfl) (by kernel_rfl) (sgS (blk_cell (j := 0) hx7 (by kernel_rfl)) (Option.some_ne_none _)) (sgS (blk_cell (j := 1) hx7 (by kernel_rfl)) (Option.some_ne_none _)))) (h := ?_)
          refine W.sc (vs := [.agg #[.int .i64 m, .slice A7 n7 c7]]) rfl rfl (by kernel_rfl) (by kernel_rfl) (by kernel_rfl) rfl (l2Good_any m A7 n7 c7 (ps.take k2 ++ [x] ++ ps.drop k2) _ (own_rd ho7) (by omega)) ?_
          rintro e w53 ⟨rfl, b52⟩
          have s54 := SG.of_below s51 b52
          refine ⟨_, rfl, s54, ?_⟩
          refine F.nx ?_
          have ho55 := own_kept ho7 b52
          rcases Bool.eq_false_or_eq_true (goodN m (ps.take k2 ++ [x] ++ ps.drop k2)) with q56 | q56
          · rw [q56]
            have hgl57 := (good_of q56).len
            refine F.q (v := .bool false) (hr := (r_not (b := true) rfl (ev_any (by kernel_rfl)) rfl)) (h := ?_)
            refine F.endF [(2, .pointer (some ⟨b2, 0, none⟩)), (3, .pointer (some ⟨b9, 0, none⟩)), (4, .pointer (some ⟨b17, 0, none⟩)), (5, .bool false), (6, .int .i64 ((k2 : Nat) : Int)), (7, .pointer (some ⟨g7, 0, none⟩)), (56, .bool false)] (fun U58 => ?_)
            have x6 := SG.blk s54 x6 (Option.some_ne_none _)
            have x13 := SG.blk s54 x13 (Option.some_ne_none _)
            have x21 := SG.blk s54 x21 (Option.some_ne_none _)
            have hx7 := SG.blk s54 hx7 (Option.some_ne_none _)
            have c59 := (SG.belowR c7b s54 (fun kq e => by cases e))
            refine h7 _ _ ?_
            refine wp_cond_false (by kernel_rfl) ?_
            refine wp_skip ?_
            refine h6 _ _ ?_
            refine wp_seq_k (fun K8 h8 => ?_)
            refine W.region_plain (row := (some b17)) [(0, false), (1, true), (2, false)] (by kernel_rfl) ?_
            have s60 := SG.self w53 (some b17)
            refine F.q (v := .agg #[.int .i64 m, .slice A7 n7 c7]) (hr := (r_load2 rfl (ev_any (by kernel_rfl)) (by kernel_rfl) (by kernel_rfl) (sgS (blk_cell (j := 0) hx7 (by kernel_rfl)) (fun e9 => ne7_2 (Option.some.inj e9).symm)) (sgS (blk_cell (j := 1) hx7 (by kernel_rfl)) (fun e9 => ne7_2 (Option.some.inj e9).symm)))) (h := ?_)
            refine W.ss (v := .agg #[.int .i64 m, .slice A7 n7 c7]) (j := 0) (news := [.int .i64 m, .slice A7 n7 c7]) (cs' := #[.int .i64 m, .slice A7 n7 c7]) s60 rfl (by kernel_rfl) rfl rfl (by kernel_rfl) (by kernel_rfl) x21 (by kernel_rfl) (by kernel_rfl) (by simp) (by kernel_rfl) (by kernel_rfl) (.inl rfl) (fun w61 g62 x63 s64 => ?_)
            have ho65 := own_grown ho55 g62 (fun j e1 e2 => by cases e2; exact nb7_2 e1.symm)
            refine F.as (v := .bool true) (h := ?_)
            refine F.endF [(2, .pointer (some ⟨b2, 0, none⟩)), (3, .pointer (some ⟨b9, 0, none⟩)), (4, .pointer (some ⟨b17, 0, none⟩)), (5, .bool true), (6, .int .i64 ((k2 : Nat) : Int)), (7, .pointer (some ⟨g7, 0, none⟩)), (56, .bool false)] (fun U66 => ?_)
            have x6 := SG.blk s64 x6 (fun e9 => ne24 (Option.some.inj e9))
            have x13 := SG.blk s64 x13 (fun e9 => ne25 (Option.some.inj e9))
            have hx7 := SG.blk s64 hx7 (fun e9 => ne7_2 (Option.some.inj e9).symm)
            have c67 := (SG.belowR c59 s64 (fun kq e => by cases e; exact lo23))
            refine h8 _ _ ?_
            as_aux_lemma =>
              refine wp_ret ?_
              try simp only [Exit.then]
              refine retCT (x := .bool true) rfl (by kernel_rfl) (by kernel_rfl) (by kernel_rfl) (by kernel_rfl) x63 ?_
              have hm9 : moreP ps x = (ps.take k2 ++ [x] ++ ps.drop k2) := moreP_is' hkk
              exact fin_rdn (own_rd ho65) (add_of q32 hm9 q56).2.2.symm (add_of q32 hm9 q56).2.1.symm (add_of q32 hm9 q56).1.symm c67
          · rw [q56]
            refine F.q (v := .bool true) (hr := (r_not (b := false) rfl (ev_any (by kernel_rfl)) rfl)) (h := ?_)
            refine F.endF [(2, .pointer (some ⟨b2, 0, none⟩)), (3, .pointer (some ⟨b9, 0, none⟩)), (4, .pointer (some ⟨b17, 0, none⟩)), (5, .bool false), (6, .int .i64 ((k2 : Nat) : Int)), (7, .pointer (some ⟨g7, 0, none⟩)), (56, .bool true)] (fun U68 => ?_)
            have x6 := SG.blk s54 x6 (Option.some_ne_none _)
            have x13 := SG.blk s54 x13 (Option.some_ne_none _)
            have x21 := SG.blk s54 x21 (Option.some_ne_none _)
            have hx7 := SG.blk s54 hx7 (Option.some_ne_none _)
            have c69 := (SG.belowR c7b s54 (fun kq e => by cases e))
            refine h7 _ _ ?_
            refine wp_cond_true (by kernel_rfl) ?_
            refine wp_seq_k (fun K9 h9 => ?_)
            refine W.region_plain (row := (some b17)) [(0, false), (1, true), (2, false)] (by kernel_rfl) ?_
            have s70 := SG.self w53 (some b17)
            refine F.q (v := .agg #[.int .i64 0, .slice none 0 0]) (hr := (r_build rfl (vs := []) (by kernel_rfl) (by kernel_rfl))) (h := ?_)
            refine W.ss (v := .agg #[.int .i64 0, .slice none 0 0]) (j := 0) (news := [.int .i64 0, .slice none 0 0]) (cs' := #[.int .i64 0, .slice none 0 0]) s70 rfl (by kernel_rfl) rfl rfl (by kernel_rfl) (by kernel_rfl) x21 (by kernel_rfl) (by kernel_rfl) (by simp) (by kernel_rfl) (by kernel_rfl) (.inl rfl) (fun w71 g72 x73 s74 => ?_)
            have ho75 := own_grown ho55 g72 (fun j e1 e2 => by cases e2; exact nb7_2 e1.symm)
            refine F.as (v := .bool false) (h := ?_)
            refine F.endF [(2, .pointer (some ⟨b2, 0, none⟩)), (3, .pointer (some ⟨b9, 0, none⟩)), (4, .pointer (some ⟨b17, 0, none⟩)), (5, .bool false), (6, .int .i64 ((k2 : Nat) : Int)), (7, .pointer (some ⟨g7, 0, none⟩)), (56, .bool true)] (fun U76 => ?_)
            have x6 := SG.blk s74 x6 (fun e9 => ne24 (Option.some.inj e9))
            have x13 := SG.blk s74 x13 (fun e9 => ne25 (Option.some.inj e9))
            have hx7 := SG.blk s74 hx7 (fun e9 => ne7_2 (Option.some.inj e9).symm)
            have c77 := (SG.belowR c69 s74 (fun kq e => by cases e; exact lo23))
            refine h9 _ _ ?_
            refine wp_ret ?_
            try simp only [Exit.then]
            refine retCT (x := .bool false) rfl (by kernel_rfl) (by kernel_rfl) (by kernel_rfl) (by kernel_rfl) x73 ?_
            have hm9 : moreP ps x = (ps.take k2 ++ [x] ++ ps.drop k2) := moreP_is' hkk
            exact fin_rdn (rd_none4 _) (add_bad hm9 q56).2.2.symm (add_bad hm9 q56).2.1.symm (add_bad hm9 q56).1.symm c77
        intro K10 h10
        refine W.region_sch (row := none) (Sch.app [(0, false), (1, false), (3, false), (4, false), (5, false), (6, false), (8, false), (11, false), (12, false), (13, false), (14, false)] (.br3 2 9 17 (Sch.app [] (.br3 7 9 17 (Sch.app [] (.br 9 17 (Sch.app [] (.br 10 17 (Sch.app [] (.br 15 17 (Sch.of [(16, false), (17, true), (18, true)]) (Sch.of [(15, true), (16, false), (18, true)]))) (Sch.of [(10, true), (15, true), (16, false), (18, true)]))) (Sch.of [(9, true), (10, true), (15, true), (16, false), (18, true)]))) (Sch.app [] (.br 7 17 (Sch.app [] (.br 10 17 (Sch.app [] (.br 15 17 (Sch.of [(16, false), (17, true), (18, true)]) (Sch.of [(15, true), (16, false), (18, true)]))) (Sch.of [(10, true), (15, true), (16, false), (18, true)]))) (Sch.of [(7, true), (10, true), (15, true), (16, false), (18, true)]))) (Sch.app [] (.br 7 9 (Sch.of [(9, true), (10, true), (15, true), (16, false), (18, true)]) (Sch.of [(7, true), (10, true), (15, true), (16, false), (18, true)]))))) (Sch.app [] (.br 2 17 (Sch.app [] (.br 7 17 (Sch.app [] (.br 10 17 (Sch.app [] (.br 15 17 (Sch.of [(16, false), (17, true), (18, true)]) (Sch.of [(15, true), (16, false), (18, true)]))) (Sch.of [(10, true), (15, true), (16, false), (18, true)]))) (Sch.of [(7, true), (10, true), (15, true), (16, false), (18, true)]))) (Sch.of [(2, true), (7, true), (10, true), (15, true), (16, false), (18, true)]))) (Sch.app [] (.br 2 9 (Sch.app [] (.br 7 9 (Sch.of [(9, true), (10, true), (15, true), (16, false), (18, true)]) (Sch.of [(7, true), (10, true), (15, true), (16, false), (18, true)]))) (Sch.of [(2, true), (7, true), (10, true), (15, true), (16, false), (18, true)]))))) (by kernel_rfl) (by kernel_rfl) (fun _ d _ _ _ h => by cases d <;> exact h) (by kernel_rfl) (fun w78 e79 s80 => ?_)
        refine F.q (v := .pointer (some ⟨b2, 0, none⟩)) (hr := (r_field0 rfl (ev_any (by kernel_rfl)) (by kernel_rfl))) (h := ?_)
        refine F.ld (v := .int .i64 m) (hc := (sgS (blk_cell (j := 0) x6 (by kernel_rfl)) (Option.some_ne_none _))) (h := ?_)
        refine F.q (v := .pointer (some ⟨b2, 1, none⟩)) (hr := (r_field (k := 1) rfl (ev_any (by kernel_rfl)) (by kernel_rfl))) (h := ?_)
        refine F.ld (v := .slice A n c) (hc := (sgS (blk_cell (j := 1) x6 (by kernel_rfl)) (Option.some_ne_none _))) (h := ?_)
        refine F.mv (v := .int .i64 ((k2 : Nat) : Int)) (h := ?_)
        refine F.q (v := .slice A k2 c) (hr := (r_sliceTo (A := A) (n := n) (c := c) (k := k2) (size := 4) rfl (ev_any (by kernel_rfl)) (ev_any (by kernel_rfl)) (by kernel_rfl) (by have := (hf).le; omega))) (h := ?_)
        refine F.q (v := .agg #[.int .i64 x.id, .int .i64 x.fr, .int .i64 x.to, .int .i64 x.sz]) (hr := (r_load4 rfl (ev_any (by kernel_rfl)) (by kernel_rfl) (by kernel_rfl) (sgS (blk_cell (j := 0) x13 (by kernel_rfl)) (Option.some_ne_none _)) (sgS (blk_cell (j := 1) x13 (by kernel_rfl)) (Option.some_ne_none _)) (sgS (blk_cell (j := 2) x13 (by kernel_rfl)) (Option.some_ne_none _)) (sgS (blk_cell (j := 3) x13 (by kernel_rfl)) (Option.some_ne_none _)))) (h := ?_)
        refine F.q (v := .pointer (some ⟨b2, 1, none⟩)) (hr := (r_field (k := 1) rfl (ev_any (by kernel_rfl)) (by kernel_rfl))) (h := ?_)
        refine F.ld (v := .slice A n c) (hc := (sgS (blk_cell (j := 1) x6 (by kernel_rfl)) (Option.some_ne_none _))) (h := ?_)
        refine F.mv (v := .int .i64 ((k2 : Nat) : Int)) (h := ?_)
        refine F.q (v := .slice (sFrom A c k2 4) (n - k2) (c - k2)) (hr := (r_sliceFrom (A := A) (n := n) (c := c) (k := k2) (size := 4) rfl (ev_any (by kernel_rfl)) (ev_any (by kernel_rfl)) (by kernel_rfl) (by omega))) (h := ?_)
        refine W.sbr3 ?_ ?_ ?_
        · refine W.sn (fun b => .slice (some ⟨b, 0, none⟩) 0 0) #[] 50 s80 rfl (by kernel_rfl) rfl (fun _ => by kernel_rfl) (fun b81 w82 hb83 k84 x85 s86 => ?_)
          refine F.nx ?_
          have lo87 : w.heap.size ≤ b81 := Nat.le_trans ((SG.belowR c50 s80 (fun kq e => by cases e))).size (Nat.le_of_eq hb83)
          have ne88 : b2 ≠ b81 := Nat.ne_of_lt (Nat.lt_of_lt_of_eq (Nat.lt_of_lt_of_le (blk_lt x6) (s80).size) hb83)
          have ne89 : b9 ≠ b81 := Nat.ne_of_lt (Nat.lt_of_lt_of_eq (Nat.lt_of_lt_of_le (blk_lt x13) (s80).size) hb83)
          have ne90 : b17 ≠ b81 := Nat.ne_of_lt (Nat.lt_of_lt_of_eq (Nat.lt_of_lt_of_le (blk_lt x21) (s80).size) hb83)
          refine W.sbr3 ?_ ?_ ?_
          · have ho91 := own_empty (base := w.heap.size) (size := 4) x85 lo87
            replace ho91 : World.ownsRow _ _ _ _ _ _ (pipesV []) := ho91
            have nb92 : Nb b2 (.slice (some ⟨b81, 0, none⟩) 0 0) := nb_new ne88
            have nb93 : Nb b9 (.slice (some ⟨b81, 0, none⟩) 0 0) := nb_new ne89
            have nb94 : Nb b17 (.slice (some ⟨b81, 0, none⟩) 0 0) := nb_new ne90
            replace ho91 : World.ownsRow _ _ _ _ _ _ (pipesV []) := ho91
            refine W.sapR (e := 50) (size := 4) (base := w.heap.size) (v := .slice (some ⟨b81, 0, none⟩) 0 0) (A := A) (m := k2) (c := c) s86 rfl rfl rfl rfl (by kernel_rfl) (by kernel_rfl) (by kernel_rfl) ho91 (Rd.toP (Rd.kept ha (SG.belowR c50 s86 (fun kq e => by cases e))) (by omega)) (Fm.to hf (by have := (hf).le; omega)) (pipes_one _) (by omega) (by have := ((SG.belowR c50 s86 (fun kq e => by cases e))).size; omega) (.inr (fun kq e => by have := (s80).size; have := hb83; have e' := Option.some.inj e; simp at e'; omega)) (fun A95 cap96 w97 ho98 hg99 hat100 s101 => ?_)
            refine F.nx ?_
            have nb102 : Nb b2 (.slice A95 (0 + k2) cap96) := nb_app2 nb92 (Nat.lt_of_lt_of_le (blk_lt x6) (s86).size) hat100
            have nb103 : Nb b9 (.slice A95 (0 + k2) cap96) := nb_app2 nb93 (Nat.lt_of_lt_of_le (blk_lt x13) (s86).size) hat100
            have nb104 : Nb b17 (.slice A95 (0 + k2) cap96) := nb_app2 nb94 (Nat.lt_of_lt_of_le (blk_lt x21) (s86).size) hat100
            have ho98 := own_joinP ho98
            have fr105 : ∀ kq, (.slice A95 (0 + k2) cap96 : Value).ownBlock = some kq → wlj1.heap.size ≤ kq := fun kq e => by
              have hs := (s86).size
              rcases hat100 with h | h
              · exact (show ∀ kq, Value.ownBlock _ = some kq → wlj1.heap.size ≤ kq from (fun kq e => by have := (s80).size; have := hb83; have e' := Option.some.inj e; simp at e'; omega)) kq (h.symm.trans e)
              · have := Option.some.inj (h.symm.trans e); omega
            refine W.sbr ?_ ?_
            · refine W.sn (fun b => .slice (some ⟨b, 0, none⟩) 1 1) #[.int .i64 x.id, .int .i64 x.fr, .int .i64 x.to, .int .i64 x.sz] 50 s101 rfl (by kernel_rfl) rfl (fun _ => by kernel_rfl) (fun b106 w107 hb108 k109 x110 s111 => ?_)
              refine F.nx ?_
              have lo112 : w.heap.size ≤ b106 := Nat.le_trans ((SG.belowR c50 s101 (fun kq e => by cases e))).size (Nat.le_of_eq hb108)
              have ne113 : b2 ≠ b106 := Nat.ne_of_lt (Nat.lt_of_lt_of_eq (Nat.lt_of_lt_of_le (blk_lt x6) (s101).size) hb108)
              have ne114 : b9 ≠ b106 := Nat.ne_of_lt (Nat.lt_of_lt_of_eq (Nat.lt_of_lt_of_le (blk_lt x13) (s101).size) hb108)
              have ne115 : b17 ≠ b106 := Nat.ne_of_lt (Nat.lt_of_lt_of_eq (Nat.lt_of_lt_of_le (blk_lt x21) (s101).size) hb108)
              have nb116 : Nb b106 (.slice A95 (0 + k2) cap96) := nb_hi ho98 (Nat.le_of_eq hb108)
              have ho117 := own_kept ho98 k109
              refine W.sbr ?_ ?_
              · refine W.sap (e := 50) (size := 4) (base := w.heap.size) (m := 1) (v := .slice A95 (0 + k2) cap96) (c := 1) s111 rfl rfl rfl rfl (by kernel_rfl) (by kernel_rfl) (by kernel_rfl) ho117 x110 (by kernel_rfl) (by kernel_rfl) (by omega) (by omega) (by have := ((SG.belowR c50 s111 (fun kq e => by cases e))).size; omega) (.inr fr105) (fun g118 cap119 w120 ho121 hg122 hat123 hlt124 s125 => ?_)
                refine F.nx ?_
                have nb126 : Nb b2 (.slice (some ⟨g118, 0, none⟩) ((0 + k2) + 1) cap119) := nb_app nb102 (Nat.lt_of_lt_of_le (blk_lt x6) (s111).size) hat123
                have nb127 : Nb b9 (.slice (some ⟨g118, 0, none⟩) ((0 + k2) + 1) cap119) := nb_app nb103 (Nat.lt_of_lt_of_le (blk_lt x13) (s111).size) hat123
                have nb128 : Nb b17 (.slice (some ⟨g118, 0, none⟩) ((0 + k2) + 1) cap119) := nb_app nb104 (Nat.lt_of_lt_of_le (blk_lt x21) (s111).size) hat123
                have nb129 : Nb b106 (.slice (some ⟨g118, 0, none⟩) ((0 + k2) + 1) cap119) := nb_app nb116 (blk_lt x110) hat123
                have x110 := (hg122.block _ (blk_lt x110) nb116).trans x110
                have ho121 := own_snocP (x := x) ho121
                have fr130 : ∀ kq, (.slice (some ⟨g118, 0, none⟩) ((0 + k2) + 1) cap119 : Value).ownBlock = some kq → wlj1.heap.size ≤ kq := fun kq e => by
                  have hs := (s111).size
                  have e' : g118 = kq := by simpa [Value.ownBlock] using e
                  rcases hat123 with h | h
                  · exact (show ∀ kq, Value.ownBlock _ = some kq → wlj1.heap.size ≤ kq from fr105) kq (by rw [← e']; exact h)
                  · omega
                refine W.sbr ?_ ?_
                · refine W.sapR (e := 50) (size := 4) (base := w.heap.size) (v := .slice (some ⟨g118, 0, none⟩) ((0 + k2) + 1) cap119) (A := (sFrom A c k2 4)) (m := (n - k2)) (c := (c - k2)) s125 rfl rfl rfl rfl (by kernel_rfl) (by kernel_rfl) (by kernel_rfl) ho121 (Rd.fromP (Rd.kept ha (SG.belowR c50 s125 (fun kq e => by cases e))) (by omega) (hf).le) (Fm.from (size := 4) hf (by omega)) (pipes_one _) (by omega) (by have := ((SG.belowR c50 s125 (fun kq e => by cases e))).size; omega) (.inr fr130) (fun A131 cap132 w133 ho134 hg135 hat136 s137 => ?_)
                  refine F.nx ?_
                  have nb138 : Nb b2 (.slice A131 (((0 + k2) + 1) + (n - k2)) cap132) := nb_app2 nb126 (Nat.lt_of_lt_of_le (blk_lt x6) (s125).size) hat136
                  have nb139 : Nb b9 (.slice A131 (((0 + k2) + 1) + (n - k2)) cap132) := nb_app2 nb127 (Nat.lt_of_lt_of_le (blk_lt x13) (s125).size) hat136
                  have nb140 : Nb b17 (.slice A131 (((0 + k2) + 1) + (n - k2)) cap132) := nb_app2 nb128 (Nat.lt_of_lt_of_le (blk_lt x21) (s125).size) hat136
                  have nb141 : Nb b106 (.slice A131 (((0 + k2) + 1) + (n - k2)) cap132) := nb_app2 nb129 (blk_lt x110) hat136
                  have x110 := (hg135.block _ (blk_lt x110) nb129).trans x110
                  have ho134 := own_joinP ho134
                  have fr142 : ∀ kq, (.slice A131 (((0 + k2) + 1) + (n - k2)) cap132 : Value).ownBlock = some kq → wlj1.heap.size ≤ kq := fun kq e => by
                    have hs := (s125).size
                    rcases hat136 with h | h
                    · exact (show ∀ kq, Value.ownBlock _ = some kq → wlj1.heap.size ≤ kq from fr130) kq (h.symm.trans e)
                    · have := Option.some.inj (h.symm.trans e); omega
                  refine F.q (v := .agg #[.int .i64 m, .slice A131 (((0 + k2) + 1) + (n - k2)) cap132]) (hr := (r_build rfl (vs := [(0, .int .i64 m), (1, .slice A131 (((0 + k2) + 1) + (n - k2)) cap132)]) (by kernel_rfl) (by kernel_rfl))) (h := ?_)
                  refine W.sn (fun b => .pointer (some ⟨b, 0, none⟩)) #[.int .i64 0, .slice none 0 0] 29 s137 rfl (by kernel_rfl) rfl (fun _ => by kernel_rfl) (fun b143 w144 hb145 k146 x147 s148 => ?_)
                  refine F.nx ?_
                  have lo149 : w.heap.size ≤ b143 := Nat.le_trans ((SG.belowR c50 s137 (fun kq e => by cases e))).size (Nat.le_of_eq hb145)
                  have ne150 : b2 ≠ b143 := Nat.ne_of_lt (Nat.lt_of_lt_of_eq (Nat.lt_of_lt_of_le (blk_lt x6) (s137).size) hb145)
                  have ne151 : b9 ≠ b143 := Nat.ne_of_lt (Nat.lt_of_lt_of_eq (Nat.lt_of_lt_of_le (blk_lt x13) (s137).size) hb145)
                  have ne152 : b17 ≠ b143 := Nat.ne_of_lt (Nat.lt_of_lt_of_eq (Nat.lt_of_lt_of_le (blk_lt x21) (s137).size) hb145)
                  have ne153 : b106 ≠ b143 := Nat.ne_of_lt (Nat.lt_of_lt_of_eq (blk_lt x110) hb145)
                  have nb154 : Nb b143 (.slice A131 (((0 + k2) + 1) + (n - k2)) cap132) := nb_hi ho134 (Nat.le_of_eq hb145)
                  have x110 := (k146.block _ (blk_lt x110)).trans x110
                  have ho155 := own_kept ho134 k146
                  refine W.ss (v := .agg #[.int .i64 m, .slice A131 (((0 + k2) + 1) + (n - k2)) cap132]) (j := 0) (news := [.int .i64 m, .slice A131 (((0 + k2) + 1) + (n - k2)) cap132]) (cs' := #[.int .i64 m, .slice A131 (((0 + k2) + 1) + (n - k2)) cap132]) s148 rfl (by kernel_rfl) rfl rfl (by kernel_rfl) (by kernel_rfl) x147 (by kernel_rfl) (by kernel_rfl) (by simp) (by kernel_rfl) (by kernel_rfl) (.inr (Nat.le_trans (s137).size (Nat.le_of_eq hb145))) (fun w156 g157 x158 s159 => ?_)
                  have x110 := (g157.block _ (blk_lt x110) (fun e9 => ne153 (Option.some.inj e9))).trans x110
                  have ho160 := own_grown ho155 g157 (fun j e1 e2 => by cases e2; exact nb154 e1.symm)
                  refine F.endF [(2, .pointer (some ⟨b2, 0, none⟩)), (3, .pointer (some ⟨b9, 0, none⟩)), (4, .pointer (some ⟨b17, 0, none⟩)), (5, .bool false), (6, .int .i64 ((k2 : Nat) : Int)), (7, .pointer (some ⟨b143, 0, none⟩))] (fun U161 => ?_)
                  have x6 := SG.blk s159 x6 (Option.some_ne_none _)
                  have x13 := SG.blk s159 x13 (Option.some_ne_none _)
                  have x21 := SG.blk s159 x21 (Option.some_ne_none _)
                  have c162 := (SG.belowR c50 s159 (fun kq e => by cases e))
                  exact h10 0 _ _ ⟨A131, (((0 + k2) + 1) + (n - k2)), cap132, b143, (fun iU9 => lk [(2, .pointer (some ⟨b2, 0, none⟩)), (3, .pointer (some ⟨b9, 0, none⟩)), (4, .pointer (some ⟨b17, 0, none⟩)), (5, .bool false), (6, .int .i64 ((k2 : Nat) : Int)), (7, .pointer (some ⟨b143, 0, none⟩))] iU9 (U161 iU9)), (by kernel_rfl), x6, x13, x21, x158, lo149, ho160, by omega, nb138, nb139, nb140, nb154, ne150, ne151, ne152, c162⟩
                · refine W.sn (fun b => .pointer (some ⟨b, 0, none⟩)) #[.int .i64 0, .slice none 0 0] 29 s125 rfl (by kernel_rfl) rfl (fun _ => by kernel_rfl) (fun b163 w164 hb165 k166 x167 s168 => ?_)
                  refine F.nx ?_
                  have lo169 : w.heap.size ≤ b163 := Nat.le_trans ((SG.belowR c50 s125 (fun kq e => by cases e))).size (Nat.le_of_eq hb165)
                  have ne170 : b2 ≠ b163 := Nat.ne_of_lt (Nat.lt_of_lt_of_eq (Nat.lt_of_lt_of_le (blk_lt x6) (s125).size) hb165)
                  have ne171 : b9 ≠ b163 := Nat.ne_of_lt (Nat.lt_of_lt_of_eq (Nat.lt_of_lt_of_le (blk_lt x13) (s125).size) hb165)
                  have ne172 : b17 ≠ b163 := Nat.ne_of_lt (Nat.lt_of_lt_of_eq (Nat.lt_of_lt_of_le (blk_lt x21) (s125).size) hb165)
                  have ne173 : b106 ≠ b163 := Nat.ne_of_lt (Nat.lt_of_lt_of_eq (blk_lt x110) hb165)
                  have nb174 : Nb b163 (.slice (some ⟨g118, 0, none⟩) ((0 + k2) + 1) cap119) := nb_hi ho121 (Nat.le_of_eq hb165)
                  have x110 := (k166.block _ (blk_lt x110)).trans x110
                  have ho175 := own_kept ho121 k166
                  refine W.sapR (e := 50) (size := 4) (base := w.heap.size) (v := .slice (some ⟨g118, 0, none⟩) ((0 + k2) + 1) cap119) (A := (sFrom A c k2 4)) (m := (n - k2)) (c := (c - k2)) s168 rfl rfl rfl rfl (by kernel_rfl) (by kernel_rfl) (by kernel_rfl) ho175 (Rd.fromP (Rd.kept ha (SG.belowR c50 s168 (fun kq e => by cases e))) (by omega) (hf).le) (Fm.from (size := 4) hf (by omega)) (pipes_one _) (by omega) (by have := ((SG.belowR c50 s168 (fun kq e => by cases e))).size; omega) (.inr fr130) (fun A176 cap177 w178 ho179 hg180 hat181 s182 => ?_)
                  refine F.nx ?_
                  have nb183 : Nb b2 (.slice A176 (((0 + k2) + 1) + (n - k2)) cap177) := nb_app2 nb126 (Nat.lt_of_lt_of_le (blk_lt x6) (s168).size) hat181
                  have nb184 : Nb b9 (.slice A176 (((0 + k2) + 1) + (n - k2)) cap177) := nb_app2 nb127 (Nat.lt_of_lt_of_le (blk_lt x13) (s168).size) hat181
                  have nb185 : Nb b17 (.slice A176 (((0 + k2) + 1) + (n - k2)) cap177) := nb_app2 nb128 (Nat.lt_of_lt_of_le (blk_lt x21) (s168).size) hat181
                  have nb186 : Nb b106 (.slice A176 (((0 + k2) + 1) + (n - k2)) cap177) := nb_app2 nb129 (blk_lt x110) hat181
                  have x110 := (hg180.block _ (blk_lt x110) nb129).trans x110
                  have nb187 : Nb b163 (.slice A176 (((0 + k2) + 1) + (n - k2)) cap177) := nb_app2 nb174 (blk_lt x167) hat181
                  have x167 := (hg180.block _ (blk_lt x167) nb174).trans x167
                  have ho179 := own_joinP ho179
                  have fr188 : ∀ kq, (.slice A176 (((0 + k2) + 1) + (n - k2)) cap177 : Value).ownBlock = some kq → wlj1.heap.size ≤ kq := fun kq e => by
                    have hs := (s168).size
                    rcases hat181 with h | h
                    · exact (show ∀ kq, Value.ownBlock _ = some kq → wlj1.heap.size ≤ kq from fr130) kq (h.symm.trans e)
                    · have := Option.some.inj (h.symm.trans e); omega
                  refine F.q (v := .agg #[.int .i64 m, .slice A176 (((0 + k2) + 1) + (n - k2)) cap177]) (hr := (r_build rfl (vs := [(0, .int .i64 m), (1, .slice A176 (((0 + k2) + 1) + (n - k2)) cap177)]) (by kernel_rfl) (by kernel_rfl))) (h := ?_)
                  refine W.ss (v := .agg #[.int .i64 m, .slice A176 (((0 + k2) + 1) + (n - k2)) cap177]) (j := 0) (news := [.int .i64 m, .slice A176 (((0 + k2) + 1) + (n - k2)) cap177]) (cs' := #[.int .i64 m, .slice A176 (((0 + k2) + 1) + (n - k2)) cap177]) s182 rfl (by kernel_rfl) rfl rfl (by kernel_rfl) (by kernel_rfl) x167 (by kernel_rfl) (by kernel_rfl) (by simp) (by kernel_rfl) (by kernel_rfl) (.inr (Nat.le_trans (s125).size (Nat.le_of_eq hb165))) (fun w189 g190 x191 s192 => ?_)
                  have x110 := (g190.block _ (blk_lt x110) (fun e9 => ne173 (Option.some.inj e9))).trans x110
                  have ho193 := own_grown ho179 g190 (fun j e1 e2 => by cases e2; exact nb187 e1.symm)
                  refine F.endF [(2, .pointer (some ⟨b2, 0, none⟩)), (3, .pointer (some ⟨b9, 0, none⟩)), (4, .pointer (some ⟨b17, 0, none⟩)), (5, .bool false), (6, .int .i64 ((k2 : Nat) : Int)), (7, .pointer (some ⟨b163, 0, none⟩))] (fun U194 => ?_)
                  have x6 := SG.blk s192 x6 (Option.some_ne_none _)
                  have x13 := SG.blk s192 x13 (Option.some_ne_none _)
                  have x21 := SG.blk s192 x21 (Option.some_ne_none _)
                  have c195 := (SG.belowR c50 s192 (fun kq e => by cases e))
                  exact h10 0 _ _ ⟨A176, (((0 + k2) + 1) + (n - k2)), cap177, b163, (fun iU9 => lk [(2, .pointer (some ⟨b2, 0, none⟩)), (3, .pointer (some ⟨b9, 0, none⟩)), (4, .pointer (some ⟨b17, 0, none⟩)), (5, .bool false), (6, .int .i64 ((k2 : Nat) : Int)), (7, .pointer (some ⟨b163, 0, none⟩))] iU9 (U194 iU9)), (by kernel_rfl), x6, x13, x21, x191, lo169, ho193, by omega, nb183, nb184, nb185, nb187, ne170, ne171, ne172, c195⟩
              · refine W.sn (fun b => .pointer (some ⟨b, 0, none⟩)) #[.int .i64 0, .slice none 0 0] 29 s111 rfl (by kernel_rfl) rfl (fun _ => by kernel_rfl) (fun b196 w197 hb198 k199 x200 s201 => ?_)
                refine F.nx ?_
                have lo202 : w.heap.size ≤ b196 := Nat.le_trans ((SG.belowR c50 s111 (fun kq e => by cases e))).size (Nat.le_of_eq hb198)
                have ne203 : b2 ≠ b196 := Nat.ne_of_lt (Nat.lt_of_lt_of_eq (Nat.lt_of_lt_of_le (blk_lt x6) (s111).size) hb198)
                have ne204 : b9 ≠ b196 := Nat.ne_of_lt (Nat.lt_of_lt_of_eq (Nat.lt_of_lt_of_le (blk_lt x13) (s111).size) hb198)
                have ne205 : b17 ≠ b196 := Nat.ne_of_lt (Nat.lt_of_lt_of_eq (Nat.lt_of_lt_of_le (blk_lt x21) (s111).size) hb198)
                have ne206 : b106 ≠ b196 := Nat.ne_of_lt (Nat.lt_of_lt_of_eq (blk_lt x110) hb198)
                have nb207 : Nb b196 (.slice A95 (0 + k2) cap96) := nb_hi ho117 (Nat.le_of_eq hb198)
                have x110 := (k199.block _ (blk_lt x110)).trans x110
                have ho208 := own_kept ho117 k199
                refine W.sap (e := 50) (size := 4) (base := w.heap.size) (m := 1) (v := .slice A95 (0 + k2) cap96) (c := 1) s201 rfl rfl rfl rfl (by kernel_rfl) (by kernel_rfl) (by kernel_rfl) ho208 x110 (by kernel_rfl) (by kernel_rfl) (by omega) (by omega) (by have := ((SG.belowR c50 s201 (fun kq e => by cases e))).size; omega) (.inr fr105) (fun g209 cap210 w211 ho212 hg213 hat214 hlt215 s216 => ?_)
                refine F.nx ?_
                have nb217 : Nb b2 (.slice (some ⟨g209, 0, none⟩) ((0 + k2) + 1) cap210) := nb_app nb102 (Nat.lt_of_lt_of_le (blk_lt x6) (s201).size) hat214
                have nb218 : Nb b9 (.slice (some ⟨g209, 0, none⟩) ((0 + k2) + 1) cap210) := nb_app nb103 (Nat.lt_of_lt_of_le (blk_lt x13) (s201).size) hat214
                have nb219 : Nb b17 (.slice (some ⟨g209, 0, none⟩) ((0 + k2) + 1) cap210) := nb_app nb104 (Nat.lt_of_lt_of_le (blk_lt x21) (s201).size) hat214
                have nb220 : Nb b106 (.slice (some ⟨g209, 0, none⟩) ((0 + k2) + 1) cap210) := nb_app nb116 (blk_lt x110) hat214
                have x110 := (hg213.block _ (blk_lt x110) nb116).trans x110
                have nb221 : Nb b196 (.slice (some ⟨g209, 0, none⟩) ((0 + k2) + 1) cap210) := nb_app nb207 (blk_lt x200) hat214
                have x200 := (hg213.block _ (blk_lt x200) nb207).trans x200
                have ho212 := own_snocP (x := x) ho212
                have fr222 : ∀ kq, (.slice (some ⟨g209, 0, none⟩) ((0 + k2) + 1) cap210 : Value).ownBlock = some kq → wlj1.heap.size ≤ kq := fun kq e => by
                  have hs := (s201).size
                  have e' : g209 = kq := by simpa [Value.ownBlock] using e
                  rcases hat214 with h | h
                  · exact (show ∀ kq, Value.ownBlock _ = some kq → wlj1.heap.size ≤ kq from fr105) kq (by rw [← e']; exact h)
                  · omega
                refine W.sapR (e := 50) (size := 4) (base := w.heap.size) (v := .slice (some ⟨g209, 0, none⟩) ((0 + k2) + 1) cap210) (A := (sFrom A c k2 4)) (m := (n - k2)) (c := (c - k2)) s216 rfl rfl rfl rfl (by kernel_rfl) (by kernel_rfl) (by kernel_rfl) ho212 (Rd.fromP (Rd.kept ha (SG.belowR c50 s216 (fun kq e => by cases e))) (by omega) (hf).le) (Fm.from (size := 4) hf (by omega)) (pipes_one _) (by omega) (by have := ((SG.belowR c50 s216 (fun kq e => by cases e))).size; omega) (.inr fr222) (fun A223 cap224 w225 ho226 hg227 hat228 s229 => ?_)
                refine F.nx ?_
                have nb230 : Nb b2 (.slice A223 (((0 + k2) + 1) + (n - k2)) cap224) := nb_app2 nb217 (Nat.lt_of_lt_of_le (blk_lt x6) (s216).size) hat228
                have nb231 : Nb b9 (.slice A223 (((0 + k2) + 1) + (n - k2)) cap224) := nb_app2 nb218 (Nat.lt_of_lt_of_le (blk_lt x13) (s216).size) hat228
                have nb232 : Nb b17 (.slice A223 (((0 + k2) + 1) + (n - k2)) cap224) := nb_app2 nb219 (Nat.lt_of_lt_of_le (blk_lt x21) (s216).size) hat228
                have nb233 : Nb b106 (.slice A223 (((0 + k2) + 1) + (n - k2)) cap224) := nb_app2 nb220 (blk_lt x110) hat228
                have x110 := (hg227.block _ (blk_lt x110) nb220).trans x110
                have nb234 : Nb b196 (.slice A223 (((0 + k2) + 1) + (n - k2)) cap224) := nb_app2 nb221 (blk_lt x200) hat228
                have x200 := (hg227.block _ (blk_lt x200) nb221).trans x200
                have ho226 := own_joinP ho226
                have fr235 : ∀ kq, (.slice A223 (((0 + k2) + 1) + (n - k2)) cap224 : Value).ownBlock = some kq → wlj1.heap.size ≤ kq := fun kq e => by
                  have hs := (s216).size
                  rcases hat228 with h | h
                  · exact (show ∀ kq, Value.ownBlock _ = some kq → wlj1.heap.size ≤ kq from fr222) kq (h.symm.trans e)
                  · have := Option.some.inj (h.symm.trans e); omega
                refine F.q (v := .agg #[.int .i64 m, .slice A223 (((0 + k2) + 1) + (n - k2)) cap224]) (hr := (r_build rfl (vs := [(0, .int .i64 m), (1, .slice A223 (((0 + k2) + 1) + (n - k2)) cap224)]) (by kernel_rfl) (by kernel_rfl))) (h := ?_)
                refine W.ss (v := .agg #[.int .i64 m, .slice A223 (((0 + k2) + 1) + (n - k2)) cap224]) (j := 0) (news := [.int .i64 m, .slice A223 (((0 + k2) + 1) + (n - k2)) cap224]) (cs' := #[.int .i64 m, .slice A223 (((0 + k2) + 1) + (n - k2)) cap224]) s229 rfl (by kernel_rfl) rfl rfl (by kernel_rfl) (by kernel_rfl) x200 (by kernel_rfl) (by kernel_rfl) (by simp) (by kernel_rfl) (by kernel_rfl) (.inr (Nat.le_trans (s111).size (Nat.le_of_eq hb198))) (fun w236 g237 x238 s239 => ?_)
                have x110 := (g237.block _ (blk_lt x110) (fun e9 => ne206 (Option.some.inj e9))).trans x110
                have ho240 := own_grown ho226 g237 (fun j e1 e2 => by cases e2; exact nb234 e1.symm)
                refine F.endF [(2, .pointer (some ⟨b2, 0, none⟩)), (3, .pointer (some ⟨b9, 0, none⟩)), (4, .pointer (some ⟨b17, 0, none⟩)), (5, .bool false), (6, .int .i64 ((k2 : Nat) : Int)), (7, .pointer (some ⟨b196, 0, none⟩))] (fun U241 => ?_)
                have x6 := SG.blk s239 x6 (Option.some_ne_none _)
                have x13 := SG.blk s239 x13 (Option.some_ne_none _)
                have x21 := SG.blk s239 x21 (Option.some_ne_none _)
                have c242 := (SG.belowR c50 s239 (fun kq e => by cases e))
                exact h10 0 _ _ ⟨A223, (((0 + k2) + 1) + (n - k2)), cap224, b196, (fun iU9 => lk [(2, .pointer (some ⟨b2, 0, none⟩)), (3, .pointer (some ⟨b9, 0, none⟩)), (4, .pointer (some ⟨b17, 0, none⟩)), (5, .bool false), (6, .int .i64 ((k2 : Nat) : Int)), (7, .pointer (some ⟨b196, 0, none⟩))] iU9 (U241 iU9)), (by kernel_rfl), x6, x13, x21, x238, lo202, ho240, by omega, nb230, nb231, nb232, nb234, ne203, ne204, ne205, c242⟩
            · refine W.sn (fun b => .pointer (some ⟨b, 0, none⟩)) #[.int .i64 0, .slice none 0 0] 29 s101 rfl (by kernel_rfl) rfl (fun _ => by kernel_rfl) (fun b243 w244 hb245 k246 x247 s248 => ?_)
              refine F.nx ?_
              have lo249 : w.heap.size ≤ b243 := Nat.le_trans ((SG.belowR c50 s101 (fun kq e => by cases e))).size (Nat.le_of_eq hb245)
              have ne250 : b2 ≠ b243 := Nat.ne_of_lt (Nat.lt_of_lt_of_eq (Nat.lt_of_lt_of_le (blk_lt x6) (s101).size) hb245)
              have ne251 : b9 ≠ b243 := Nat.ne_of_lt (Nat.lt_of_lt_of_eq (Nat.lt_of_lt_of_le (blk_lt x13) (s101).size) hb245)
              have ne252 : b17 ≠ b243 := Nat.ne_of_lt (Nat.lt_of_lt_of_eq (Nat.lt_of_lt_of_le (blk_lt x21) (s101).size) hb245)
              have nb253 : Nb b243 (.slice A95 (0 + k2) cap96) := nb_hi ho98 (Nat.le_of_eq hb245)
              have ho254 := own_kept ho98 k246
              refine W.sn (fun b => .slice (some ⟨b, 0, none⟩) 1 1) #[.int .i64 x.id, .int .i64 x.fr, .int .i64 x.to, .int .i64 x.sz] 50 s248 rfl (by kernel_rfl) rfl (fun _ => by kernel_rfl) (fun b255 w256 hb257 k258 x259 s260 => ?_)
              refine F.nx ?_
              have lo261 : w.heap.size ≤ b255 := Nat.le_trans ((SG.belowR c50 s248 (fun kq e => by cases e))).size (Nat.le_of_eq hb257)
              have ne262 : b2 ≠ b255 := Nat.ne_of_lt (Nat.lt_of_lt_of_eq (Nat.lt_of_lt_of_le (blk_lt x6) (s248).size) hb257)
              have ne263 : b9 ≠ b255 := Nat.ne_of_lt (Nat.lt_of_lt_of_eq (Nat.lt_of_lt_of_le (blk_lt x13) (s248).size) hb257)
              have ne264 : b17 ≠ b255 := Nat.ne_of_lt (Nat.lt_of_lt_of_eq (Nat.lt_of_lt_of_le (blk_lt x21) (s248).size) hb257)
              have ne265 : b243 ≠ b255 := Nat.ne_of_lt (Nat.lt_of_lt_of_eq (blk_lt x247) hb257)
              have nb266 : Nb b255 (.slice A95 (0 + k2) cap96) := nb_hi ho254 (Nat.le_of_eq hb257)
              have x247 := (k258.block _ (blk_lt x247)).trans x247
              have ho267 := own_kept ho254 k258
              refine W.sap (e := 50) (size := 4) (base := w.heap.size) (m := 1) (v := .slice A95 (0 + k2) cap96) (c := 1) s260 rfl rfl rfl rfl (by kernel_rfl) (by kernel_rfl) (by kernel_rfl) ho267 x259 (by kernel_rfl) (by kernel_rfl) (by omega) (by omega) (by have := ((SG.belowR c50 s260 (fun kq e => by cases e))).size; omega) (.inr fr105) (fun g268 cap269 w270 ho271 hg272 hat273 hlt274 s275 => ?_)
              refine F.nx ?_
              have nb276 : Nb b2 (.slice (some ⟨g268, 0, none⟩) ((0 + k2) + 1) cap269) := nb_app nb102 (Nat.lt_of_lt_of_le (blk_lt x6) (s260).size) hat273
              have nb277 : Nb b9 (.slice (some ⟨g268, 0, none⟩) ((0 + k2) + 1) cap269) := nb_app nb103 (Nat.lt_of_lt_of_le (blk_lt x13) (s260).size) hat273
              have nb278 : Nb b17 (.slice (some ⟨g268, 0, none⟩) ((0 + k2) + 1) cap269) := nb_app nb104 (Nat.lt_of_lt_of_le (blk_lt x21) (s260).size) hat273
              have nb279 : Nb b243 (.slice (some ⟨g268, 0, none⟩) ((0 + k2) + 1) cap269) := nb_app nb253 (blk_lt x247) hat273
              have x247 := (hg272.block _ (blk_lt x247) nb253).trans x247
              have nb280 : Nb b255 (.slice (some ⟨g268, 0, none⟩) ((0 + k2) + 1) cap269) := nb_app nb266 (blk_lt x259) hat273
              have x259 := (hg272.block _ (blk_lt x259) nb266).trans x259
              have ho271 := own_snocP (x := x) ho271
              have fr281 : ∀ kq, (.slice (some ⟨g268, 0, none⟩) ((0 + k2) + 1) cap269 : Value).ownBlock = some kq → wlj1.heap.size ≤ kq := fun kq e => by
                have hs := (s260).size
                have e' : g268 = kq := by simpa [Value.ownBlock] using e
                rcases hat273 with h | h
                · exact (show ∀ kq, Value.ownBlock _ = some kq → wlj1.heap.size ≤ kq from fr105) kq (by rw [← e']; exact h)
                · omega
              refine W.sapR (e := 50) (size := 4) (base := w.heap.size) (v := .slice (some ⟨g268, 0, none⟩) ((0 + k2) + 1) cap269) (A := (sFrom A c k2 4)) (m := (n - k2)) (c := (c - k2)) s275 rfl rfl rfl rfl (by kernel_rfl) (by kernel_rfl) (by kernel_rfl) ho271 (Rd.fromP (Rd.kept ha (SG.belowR c50 s275 (fun kq e => by cases e))) (by omega) (hf).le) (Fm.from (size := 4) hf (by omega)) (pipes_one _) (by omega) (by have := ((SG.belowR c50 s275 (fun kq e => by cases e))).size; omega) (.inr fr281) (fun A282 cap283 w284 ho285 hg286 hat287 s288 => ?_)
              refine F.nx ?_
              have nb289 : Nb b2 (.slice A282 (((0 + k2) + 1) + (n - k2)) cap283) := nb_app2 nb276 (Nat.lt_of_lt_of_le (blk_lt x6) (s275).size) hat287
              have nb290 : Nb b9 (.slice A282 (((0 + k2) + 1) + (n - k2)) cap283) := nb_app2 nb277 (Nat.lt_of_lt_of_le (blk_lt x13) (s275).size) hat287
              have nb291 : Nb b17 (.slice A282 (((0 + k2) + 1) + (n - k2)) cap283) := nb_app2 nb278 (Nat.lt_of_lt_of_le (blk_lt x21) (s275).size) hat287
              have nb292 : Nb b243 (.slice A282 (((0 + k2) + 1) + (n - k2)) cap283) := nb_app2 nb279 (blk_lt x247) hat287
              have x247 := (hg286.block _ (blk_lt x247) nb279).trans x247
              have nb293 : Nb b255 (.slice A282 (((0 + k2) + 1) + (n - k2)) cap283) := nb_app2 nb280 (blk_lt x259) hat287
              have x259 := (hg286.block _ (blk_lt x259) nb280).trans x259
              have ho285 := own_joinP ho285
              have fr294 : ∀ kq, (.slice A282 (((0 + k2) + 1) + (n - k2)) cap283 : Value).ownBlock = some kq → wlj1.heap.size ≤ kq := fun kq e => by
                have hs := (s275).size
                rcases hat287 with h | h
                · exact (show ∀ kq, Value.ownBlock _ = some kq → wlj1.heap.size ≤ kq from fr281) kq (h.symm.trans e)
                · have := Option.some.inj (h.symm.trans e); omega
              refine F.q (v := .agg #[.int .i64 m, .slice A282 (((0 + k2) + 1) + (n - k2)) cap283]) (hr := (r_build rfl (vs := [(0, .int .i64 m), (1, .slice A282 (((0 + k2) + 1) + (n - k2)) cap283)]) (by kernel_rfl) (by kernel_rfl))) (h := ?_)
              refine W.ss (v := .agg #[.int .i64 m, .slice A282 (((0 + k2) + 1) + (n - k2)) cap283]) (j := 0) (news := [.int .i64 m, .slice A282 (((0 + k2) + 1) + (n - k2)) cap283]) (cs' := #[.int .i64 m, .slice A282 (((0 + k2) + 1) + (n - k2)) cap283]) s288 rfl (by kernel_rfl) rfl rfl (by kernel_rfl) (by kernel_rfl) x247 (by kernel_rfl) (by kernel_rfl) (by simp) (by kernel_rfl) (by kernel_rfl) (.inr (Nat.le_trans (s101).size (Nat.le_of_eq hb245))) (fun w295 g296 x297 s298 => ?_)
              have x259 := (g296.block _ (blk_lt x259) (fun e9 => ne265 (Option.some.inj e9).symm)).trans x259
              have ho299 := own_grown ho285 g296 (fun j e1 e2 => by cases e2; exact nb292 e1.symm)
              refine F.endF [(2, .pointer (some ⟨b2, 0, none⟩)), (3, .pointer (some ⟨b9, 0, none⟩)), (4, .pointer (some ⟨b17, 0, none⟩)), (5, .bool false), (6, .int .i64 ((k2 : Nat) : Int)), (7, .pointer (some ⟨b243, 0, none⟩))] (fun U300 => ?_)
              have x6 := SG.blk s298 x6 (Option.some_ne_none _)
              have x13 := SG.blk s298 x13 (Option.some_ne_none _)
              have x21 := SG.blk s298 x21 (Option.some_ne_none _)
              have c301 := (SG.belowR c50 s298 (fun kq e => by cases e))
              exact h10 0 _ _ ⟨A282, (((0 + k2) + 1) + (n - k2)), cap283, b243, (fun iU9 => lk [(2, .pointer (some ⟨b2, 0, none⟩)), (3, .pointer (some ⟨b9, 0, none⟩)), (4, .pointer (some ⟨b17, 0, none⟩)), (5, .bool false), (6, .int .i64 ((k2 : Nat) : Int)), (7, .pointer (some ⟨b243, 0, none⟩))] iU9 (U300 iU9)), (by kernel_rfl), x6, x13, x21, x297, lo249, ho299, by omega, nb289, nb290, nb291, nb292, ne250, ne251, ne252, c301⟩
          · refine W.sn (fun b => .slice (some ⟨b, 0, none⟩) 1 1) #[.int .i64 x.id, .int .i64 x.fr, .int .i64 x.to, .int .i64 x.sz] 50 s86 rfl (by kernel_rfl) rfl (fun _ => by kernel_rfl) (fun b302 w303 hb304 k305 x306 s307 => ?_)
            refine F.nx ?_
            have lo308 : w.heap.size ≤ b302 := Nat.le_trans ((SG.belowR c50 s86 (fun kq e => by cases e))).size (Nat.le_of_eq hb304)
            have ne309 : b2 ≠ b302 := Nat.ne_of_lt (Nat.lt_of_lt_of_eq (Nat.lt_of_lt_of_le (blk_lt x6) (s86).size) hb304)
            have ne310 : b9 ≠ b302 := Nat.ne_of_lt (Nat.lt_of_lt_of_eq (Nat.lt_of_lt_of_le (blk_lt x13) (s86).size) hb304)
            have ne311 : b17 ≠ b302 := Nat.ne_of_lt (Nat.lt_of_lt_of_eq (Nat.lt_of_lt_of_le (blk_lt x21) (s86).size) hb304)
            have ne312 : b81 ≠ b302 := Nat.ne_of_lt (Nat.lt_of_lt_of_eq (blk_lt x85) hb304)
            have x85 := (k305.block _ (blk_lt x85)).trans x85
            refine W.sbr ?_ ?_
            · have ho313 := own_empty (base := w.heap.size) (size := 4) x85 lo87
              replace ho313 : World.ownsRow _ _ _ _ _ _ (pipesV []) := ho313
              have nb314 : Nb b2 (.slice (some ⟨b81, 0, none⟩) 0 0) := nb_new ne88
              have nb315 : Nb b9 (.slice (some ⟨b81, 0, none⟩) 0 0) := nb_new ne89
              have nb316 : Nb b17 (.slice (some ⟨b81, 0, none⟩) 0 0) := nb_new ne90
              have nb317 : Nb b302 (.slice (some ⟨b81, 0, none⟩) 0 0) := nb_new (Ne.symm ne312)
              replace ho313 : World.ownsRow _ _ _ _ _ _ (pipesV []) := ho313
              refine W.sapR (e := 50) (size := 4) (base := w.heap.size) (v := .slice (some ⟨b81, 0, none⟩) 0 0) (A := A) (m := k2) (c := c) s307 rfl rfl rfl rfl (by kernel_rfl) (by kernel_rfl) (by kernel_rfl) ho313 (Rd.toP (Rd.kept ha (SG.belowR c50 s307 (fun kq e => by cases e))) (by omega)) (Fm.to hf (by have := (hf).le; omega)) (pipes_one _) (by omega) (by have := ((SG.belowR c50 s307 (fun kq e => by cases e))).size; omega) (.inr (fun kq e => by have := (s80).size; have := hb83; have e' := Option.some.inj e; simp at e'; omega)) (fun A318 cap319 w320 ho321 hg322 hat323 s324 => ?_)
              refine F.nx ?_
              have nb325 : Nb b2 (.slice A318 (0 + k2) cap319) := nb_app2 nb314 (Nat.lt_of_lt_of_le (blk_lt x6) (s307).size) hat323
              have nb326 : Nb b9 (.slice A318 (0 + k2) cap319) := nb_app2 nb315 (Nat.lt_of_lt_of_le (blk_lt x13) (s307).size) hat323
              have nb327 : Nb b17 (.slice A318 (0 + k2) cap319) := nb_app2 nb316 (Nat.lt_of_lt_of_le (blk_lt x21) (s307).size) hat323
              have nb328 : Nb b302 (.slice A318 (0 + k2) cap319) := nb_app2 nb317 (blk_lt x306) hat323
              have x306 := (hg322.block _ (blk_lt x306) nb317).trans x306
              have ho321 := own_joinP ho321
              have fr329 : ∀ kq, (.slice A318 (0 + k2) cap319 : Value).ownBlock = some kq → wlj1.heap.size ≤ kq := fun kq e => by
                have hs := (s307).size
                rcases hat323 with h | h
                · exact (show ∀ kq, Value.ownBlock _ = some kq → wlj1.heap.size ≤ kq from (fun kq e => by have := (s80).size; have := hb83; have e' := Option.some.inj e; simp at e'; omega)) kq (h.symm.trans e)
                · have := Option.some.inj (h.symm.trans e); omega
              refine W.sbr ?_ ?_
              · refine W.sap (e := 50) (size := 4) (base := w.heap.size) (m := 1) (v := .slice A318 (0 + k2) cap319) (c := 1) s324 rfl rfl rfl rfl (by kernel_rfl) (by kernel_rfl) (by kernel_rfl) ho321 x306 (by kernel_rfl) (by kernel_rfl) (by omega) (by omega) (by have := ((SG.belowR c50 s324 (fun kq e => by cases e))).size; omega) (.inr fr329) (fun g330 cap331 w332 ho333 hg334 hat335 hlt336 s337 => ?_)
                refine F.nx ?_
                have nb338 : Nb b2 (.slice (some ⟨g330, 0, none⟩) ((0 + k2) + 1) cap331) := nb_app nb325 (Nat.lt_of_lt_of_le (blk_lt x6) (s324).size) hat335
                have nb339 : Nb b9 (.slice (some ⟨g330, 0, none⟩) ((0 + k2) + 1) cap331) := nb_app nb326 (Nat.lt_of_lt_of_le (blk_lt x13) (s324).size) hat335
                have nb340 : Nb b17 (.slice (some ⟨g330, 0, none⟩) ((0 + k2) + 1) cap331) := nb_app nb327 (Nat.lt_of_lt_of_le (blk_lt x21) (s324).size) hat335
                have nb341 : Nb b302 (.slice (some ⟨g330, 0, none⟩) ((0 + k2) + 1) cap331) := nb_app nb328 (blk_lt x306) hat335
                have x306 := (hg334.block _ (blk_lt x306) nb328).trans x306
                have ho333 := own_snocP (x := x) ho333
                have fr342 : ∀ kq, (.slice (some ⟨g330, 0, none⟩) ((0 + k2) + 1) cap331 : Value).ownBlock = some kq → wlj1.heap.size ≤ kq := fun kq e => by
                  have hs := (s324).size
                  have e' : g330 = kq := by simpa [Value.ownBlock] using e
                  rcases hat335 with h | h
                  · exact (show ∀ kq, Value.ownBlock _ = some kq → wlj1.heap.size ≤ kq from fr329) kq (by rw [← e']; exact h)
                  · omega
                refine W.sbr ?_ ?_
                · refine W.sapR (e := 50) (size := 4) (base := w.heap.size) (v := .slice (some ⟨g330, 0, none⟩) ((0 + k2) + 1) cap331) (A := (sFrom A c k2 4)) (m := (n - k2)) (c := (c - k2)) s337 rfl rfl rfl rfl (by kernel_rfl) (by kernel_rfl) (by kernel_rfl) ho333 (Rd.fromP (Rd.kept ha (SG.belowR c50 s337 (fun kq e => by cases e))) (by omega) (hf).le) (Fm.from (size := 4) hf (by omega)) (pipes_one _) (by omega) (by have := ((SG.belowR c50 s337 (fun kq e => by cases e))).size; omega) (.inr fr342) (fun A343 cap344 w345 ho346 hg347 hat348 s349 => ?_)
                  refine F.nx ?_
                  have nb350 : Nb b2 (.slice A343 (((0 + k2) + 1) + (n - k2)) cap344) := nb_app2 nb338 (Nat.lt_of_lt_of_le (blk_lt x6) (s337).size) hat348
                  have nb351 : Nb b9 (.slice A343 (((0 + k2) + 1) + (n - k2)) cap344) := nb_app2 nb339 (Nat.lt_of_lt_of_le (blk_lt x13) (s337).size) hat348
                  have nb352 : Nb b17 (.slice A343 (((0 + k2) + 1) + (n - k2)) cap344) := nb_app2 nb340 (Nat.lt_of_lt_of_le (blk_lt x21) (s337).size) hat348
                  have nb353 : Nb b302 (.slice A343 (((0 + k2) + 1) + (n - k2)) cap344) := nb_app2 nb341 (blk_lt x306) hat348
                  have x306 := (hg347.block _ (blk_lt x306) nb341).trans x306
                  have ho346 := own_joinP ho346
                  have fr354 : ∀ kq, (.slice A343 (((0 + k2) + 1) + (n - k2)) cap344 : Value).ownBlock = some kq → wlj1.heap.size ≤ kq := fun kq e => by
                    have hs := (s337).size
                    rcases hat348 with h | h
                    · exact (show ∀ kq, Value.ownBlock _ = some kq → wlj1.heap.size ≤ kq from fr342) kq (h.symm.trans e)
                    · have := Option.some.inj (h.symm.trans e); omega
                  refine F.q (v := .agg #[.int .i64 m, .slice A343 (((0 + k2) + 1) + (n - k2)) cap344]) (hr := (r_build rfl (vs := [(0, .int .i64 m), (1, .slice A343 (((0 + k2) + 1) + (n - k2)) cap344)]) (by kernel_rfl) (by kernel_rfl))) (h := ?_)
                  refine W.sn (fun b => .pointer (some ⟨b, 0, none⟩)) #[.int .i64 0, .slice none 0 0] 29 s349 rfl (by kernel_rfl) rfl (fun _ => by kernel_rfl) (fun b355 w356 hb357 k358 x359 s360 => ?_)
                  refine F.nx ?_
                  have lo361 : w.heap.size ≤ b355 := Nat.le_trans ((SG.belowR c50 s349 (fun kq e => by cases e))).size (Nat.le_of_eq hb357)
                  have ne362 : b2 ≠ b355 := Nat.ne_of_lt (Nat.lt_of_lt_of_eq (Nat.lt_of_lt_of_le (blk_lt x6) (s349).size) hb357)
                  have ne363 : b9 ≠ b355 := Nat.ne_of_lt (Nat.lt_of_lt_of_eq (Nat.lt_of_lt_of_le (blk_lt x13) (s349).size) hb357)
                  have ne364 : b17 ≠ b355 := Nat.ne_of_lt (Nat.lt_of_lt_of_eq (Nat.lt_of_lt_of_le (blk_lt x21) (s349).size) hb357)
                  have ne365 : b302 ≠ b355 := Nat.ne_of_lt (Nat.lt_of_lt_of_eq (blk_lt x306) hb357)
                  have nb366 : Nb b355 (.slice A343 (((0 + k2) + 1) + (n - k2)) cap344) := nb_hi ho346 (Nat.le_of_eq hb357)
                  have x306 := (k358.block _ (blk_lt x306)).trans x306
                  have ho367 := own_kept ho346 k358
                  refine W.ss (v := .agg #[.int .i64 m, .slice A343 (((0 + k2) + 1) + (n - k2)) cap344]) (j := 0) (news := [.int .i64 m, .slice A343 (((0 + k2) + 1) + (n - k2)) cap344]) (cs' := #[.int .i64 m, .slice A343 (((0 + k2) + 1) + (n - k2)) cap344]) s360 rfl (by kernel_rfl) rfl rfl (by kernel_rfl) (by kernel_rfl) x359 (by kernel_rfl) (by kernel_rfl) (by simp) (by kernel_rfl) (by kernel_rfl) (.inr (Nat.le_trans (s349).size (Nat.le_of_eq hb357))) (fun w368 g369 x370 s371 => ?_)
                  have x306 := (g369.block _ (blk_lt x306) (fun e9 => ne365 (Option.some.inj e9))).trans x306
                  have ho372 := own_grown ho367 g369 (fun j e1 e2 => by cases e2; exact nb366 e1.symm)
                  refine F.endF [(2, .pointer (some ⟨b2, 0, none⟩)), (3, .pointer (some ⟨b9, 0, none⟩)), (4, .pointer (some ⟨b17, 0, none⟩)), (5, .bool false), (6, .int .i64 ((k2 : Nat) : Int)), (7, .pointer (some ⟨b355, 0, none⟩))] (fun U373 => ?_)
                  have x6 := SG.blk s371 x6 (Option.some_ne_none _)
                  have x13 := SG.blk s371 x13 (Option.some_ne_none _)
                  have x21 := SG.blk s371 x21 (Option.some_ne_none _)
                  have c374 := (SG.belowR c50 s371 (fun kq e => by cases e))
                  exact h10 0 _ _ ⟨A343, (((0 + k2) + 1) + (n - k2)), cap344, b355, (fun iU9 => lk [(2, .pointer (some ⟨b2, 0, none⟩)), (3, .pointer (some ⟨b9, 0, none⟩)), (4, .pointer (some ⟨b17, 0, none⟩)), (5, .bool false), (6, .int .i64 ((k2 : Nat) : Int)), (7, .pointer (some ⟨b355, 0, none⟩))] iU9 (U373 iU9)), (by kernel_rfl), x6, x13, x21, x370, lo361, ho372, by omega, nb350, nb351, nb352, nb366, ne362, ne363, ne364, c374⟩
                · refine W.sn (fun b => .pointer (some ⟨b, 0, none⟩)) #[.int .i64 0, .slice none 0 0] 29 s337 rfl (by kernel_rfl) rfl (fun _ => by kernel_rfl) (fun b375 w376 hb377 k378 x379 s380 => ?_)
                  refine F.nx ?_
                  have lo381 : w.heap.size ≤ b375 := Nat.le_trans ((SG.belowR c50 s337 (fun kq e => by cases e))).size (Nat.le_of_eq hb377)
                  have ne382 : b2 ≠ b375 := Nat.ne_of_lt (Nat.lt_of_lt_of_eq (Nat.lt_of_lt_of_le (blk_lt x6) (s337).size) hb377)
                  have ne383 : b9 ≠ b375 := Nat.ne_of_lt (Nat.lt_of_lt_of_eq (Nat.lt_of_lt_of_le (blk_lt x13) (s337).size) hb377)
                  have ne384 : b17 ≠ b375 := Nat.ne_of_lt (Nat.lt_of_lt_of_eq (Nat.lt_of_lt_of_le (blk_lt x21) (s337).size) hb377)
                  have ne385 : b302 ≠ b375 := Nat.ne_of_lt (Nat.lt_of_lt_of_eq (blk_lt x306) hb377)
                  have nb386 : Nb b375 (.slice (some ⟨g330, 0, none⟩) ((0 + k2) + 1) cap331) := nb_hi ho333 (Nat.le_of_eq hb377)
                  have x306 := (k378.block _ (blk_lt x306)).trans x306
                  have ho387 := own_kept ho333 k378
                  refine W.sapR (e := 50) (size := 4) (base := w.heap.size) (v := .slice (some ⟨g330, 0, none⟩) ((0 + k2) + 1) cap331) (A := (sFrom A c k2 4)) (m := (n - k2)) (c := (c - k2)) s380 rfl rfl rfl rfl (by kernel_rfl) (by kernel_rfl) (by kernel_rfl) ho387 (Rd.fromP (Rd.kept ha (SG.belowR c50 s380 (fun kq e => by cases e))) (by omega) (hf).le) (Fm.from (size := 4) hf (by omega)) (pipes_one _) (by omega) (by have := ((SG.belowR c50 s380 (fun kq e => by cases e))).size; omega) (.inr fr342) (fun A388 cap389 w390 ho391 hg392 hat393 s394 => ?_)
                  refine F.nx ?_
                  have nb395 : Nb b2 (.slice A388 (((0 + k2) + 1) + (n - k2)) cap389) := nb_app2 nb338 (Nat.lt_of_lt_of_le (blk_lt x6) (s380).size) hat393
                  have nb396 : Nb b9 (.slice A388 (((0 + k2) + 1) + (n - k2)) cap389) := nb_app2 nb339 (Nat.lt_of_lt_of_le (blk_lt x13) (s380).size) hat393
                  have nb397 : Nb b17 (.slice A388 (((0 + k2) + 1) + (n - k2)) cap389) := nb_app2 nb340 (Nat.lt_of_lt_of_le (blk_lt x21) (s380).size) hat393
                  have nb398 : Nb b302 (.slice A388 (((0 + k2) + 1) + (n - k2)) cap389) := nb_app2 nb341 (blk_lt x306) hat393
                  have x306 := (hg392.block _ (blk_lt x306) nb341).trans x306
                  have nb399 : Nb b375 (.slice A388 (((0 + k2) + 1) + (n - k2)) cap389) := nb_app2 nb386 (blk_lt x379) hat393
                  have x379 := (hg392.block _ (blk_lt x379) nb386).trans x379
                  have ho391 := own_joinP ho391
                  have fr400 : ∀ kq, (.slice A388 (((0 + k2) + 1) + (n - k2)) cap389 : Value).ownBlock = some kq → wlj1.heap.size ≤ kq := fun kq e => by
                    have hs := (s380).size
                    rcases hat393 with h | h
                    · exact (show ∀ kq, Value.ownBlock _ = some kq → wlj1.heap.size ≤ kq from fr342) kq (h.symm.trans e)
                    · have := Option.some.inj (h.symm.trans e); omega
                  refine F.q (v := .agg #[.int .i64 m, .slice A388 (((0 + k2) + 1) + (n - k2)) cap389]) (hr := (r_build rfl (vs := [(0, .int .i64 m), (1, .slice A388 (((0 + k2) + 1) + (n - k2)) cap389)]) (by kernel_rfl) (by kernel_rfl))) (h := ?_)
                  refine W.ss (v := .agg #[.int .i64 m, .slice A388 (((0 + k2) + 1) + (n - k2)) cap389]) (j := 0) (news := [.int .i64 m, .slice A388 (((0 + k2) + 1) + (n - k2)) cap389]) (cs' := #[.int .i64 m, .slice A388 (((0 + k2) + 1) + (n - k2)) cap389]) s394 rfl (by kernel_rfl) rfl rfl (by kernel_rfl) (by kernel_rfl) x379 (by kernel_rfl) (by kernel_rfl) (by simp) (by kernel_rfl) (by kernel_rfl) (.inr (Nat.le_trans (s337).size (Nat.le_of_eq hb377))) (fun w401 g402 x403 s404 => ?_)
                  have x306 := (g402.block _ (blk_lt x306) (fun e9 => ne385 (Option.some.inj e9))).trans x306
                  have ho405 := own_grown ho391 g402 (fun j e1 e2 => by cases e2; exact nb399 e1.symm)
                  refine F.endF [(2, .pointer (some ⟨b2, 0, none⟩)), (3, .pointer (some ⟨b9, 0, none⟩)), (4, .pointer (some ⟨b17, 0, none⟩)), (5, .bool false), (6, .int .i64 ((k2 : Nat) : Int)), (7, .pointer (some ⟨b375, 0, none⟩))] (fun U406 => ?_)
                  have x6 := SG.blk s404 x6 (Option.some_ne_none _)
                  have x13 := SG.blk s404 x13 (Option.some_ne_none _)
                  have x21 := SG.blk s404 x21 (Option.some_ne_none _)
                  have c407 := (SG.belowR c50 s404 (fun kq e => by cases e))
                  exact h10 0 _ _ ⟨A388, (((0 + k2) + 1) + (n - k2)), cap389, b375, (fun iU9 => lk [(2, .pointer (some ⟨b2, 0, none⟩)), (3, .pointer (some ⟨b9, 0, none⟩)), (4, .pointer (some ⟨b17, 0, none⟩)), (5, .bool false), (6, .int .i64 ((k2 : Nat) : Int)), (7, .pointer (some ⟨b375, 0, none⟩))] iU9 (U406 iU9)), (by kernel_rfl), x6, x13, x21, x403, lo381, ho405, by omega, nb395, nb396, nb397, nb399, ne382, ne383, ne384, c407⟩
              · refine W.sn (fun b => .pointer (some ⟨b, 0, none⟩)) #[.int .i64 0, .slice none 0 0] 29 s324 rfl (by kernel_rfl) rfl (fun _ => by kernel_rfl) (fun b408 w409 hb410 k411 x412 s413 => ?_)
                refine F.nx ?_
                have lo414 : w.heap.size ≤ b408 := Nat.le_trans ((SG.belowR c50 s324 (fun kq e => by cases e))).size (Nat.le_of_eq hb410)
                have ne415 : b2 ≠ b408 := Nat.ne_of_lt (Nat.lt_of_lt_of_eq (Nat.lt_of_lt_of_le (blk_lt x6) (s324).size) hb410)
                have ne416 : b9 ≠ b408 := Nat.ne_of_lt (Nat.lt_of_lt_of_eq (Nat.lt_of_lt_of_le (blk_lt x13) (s324).size) hb410)
                have ne417 : b17 ≠ b408 := Nat.ne_of_lt (Nat.lt_of_lt_of_eq (Nat.lt_of_lt_of_le (blk_lt x21) (s324).size) hb410)
                have ne418 : b302 ≠ b408 := Nat.ne_of_lt (Nat.lt_of_lt_of_eq (blk_lt x306) hb410)
                have nb419 : Nb b408 (.slice A318 (0 + k2) cap319) := nb_hi ho321 (Nat.le_of_eq hb410)
                have x306 := (k411.block _ (blk_lt x306)).trans x306
                have ho420 := own_kept ho321 k411
                refine W.sap (e := 50) (size := 4) (base := w.heap.size) (m := 1) (v := .slice A318 (0 + k2) cap319) (c := 1) s413 rfl rfl rfl rfl (by kernel_rfl) (by kernel_rfl) (by kernel_rfl) ho420 x306 (by kernel_rfl) (by kernel_rfl) (by omega) (by omega) (by have := ((SG.belowR c50 s413 (fun kq e => by cases e))).size; omega) (.inr fr329) (fun g421 cap422 w423 ho424 hg425 hat426 hlt427 s428 => ?_)
                refine F.nx ?_
                have nb429 : Nb b2 (.slice (some ⟨g421, 0, none⟩) ((0 + k2) + 1) cap422) := nb_app nb325 (Nat.lt_of_lt_of_le (blk_lt x6) (s413).size) hat426
                have nb430 : Nb b9 (.slice (some ⟨g421, 0, none⟩) ((0 + k2) + 1) cap422) := nb_app nb326 (Nat.lt_of_lt_of_le (blk_lt x13) (s413).size) hat426
                have nb431 : Nb b17 (.slice (some ⟨g421, 0, none⟩) ((0 + k2) + 1) cap422) := nb_app nb327 (Nat.lt_of_lt_of_le (blk_lt x21) (s413).size) hat426
                have nb432 : Nb b302 (.slice (some ⟨g421, 0, none⟩) ((0 + k2) + 1) cap422) := nb_app nb328 (blk_lt x306) hat426
                have x306 := (hg425.block _ (blk_lt x306) nb328).trans x306
                have nb433 : Nb b408 (.slice (some ⟨g421, 0, none⟩) ((0 + k2) + 1) cap422) := nb_app nb419 (blk_lt x412) hat426
                have x412 := (hg425.block _ (blk_lt x412) nb419).trans x412
                have ho424 := own_snocP (x := x) ho424
                have fr434 : ∀ kq, (.slice (some ⟨g421, 0, none⟩) ((0 + k2) + 1) cap422 : Value).ownBlock = some kq → wlj1.heap.size ≤ kq := fun kq e => by
                  have hs := (s413).size
                  have e' : g421 = kq := by simpa [Value.ownBlock] using e
                  rcases hat426 with h | h
                  · exact (show ∀ kq, Value.ownBlock _ = some kq → wlj1.heap.size ≤ kq from fr329) kq (by rw [← e']; exact h)
                  · omega
                refine W.sapR (e := 50) (size := 4) (base := w.heap.size) (v := .slice (some ⟨g421, 0, none⟩) ((0 + k2) + 1) cap422) (A := (sFrom A c k2 4)) (m := (n - k2)) (c := (c - k2)) s428 rfl rfl rfl rfl (by kernel_rfl) (by kernel_rfl) (by kernel_rfl) ho424 (Rd.fromP (Rd.kept ha (SG.belowR c50 s428 (fun kq e => by cases e))) (by omega) (hf).le) (Fm.from (size := 4) hf (by omega)) (pipes_one _) (by omega) (by have := ((SG.belowR c50 s428 (fun kq e => by cases e))).size; omega) (.inr fr434) (fun A435 cap436 w437 ho438 hg439 hat440 s441 => ?_)
                refine F.nx ?_
                have nb442 : Nb b2 (.slice A435 (((0 + k2) + 1) + (n - k2)) cap436) := nb_app2 nb429 (Nat.lt_of_lt_of_le (blk_lt x6) (s428).size) hat440
                have nb443 : Nb b9 (.slice A435 (((0 + k2) + 1) + (n - k2)) cap436) := nb_app2 nb430 (Nat.lt_of_lt_of_le (blk_lt x13) (s428).size) hat440
                have nb444 : Nb b17 (.slice A435 (((0 + k2) + 1) + (n - k2)) cap436) := nb_app2 nb431 (Nat.lt_of_lt_of_le (blk_lt x21) (s428).size) hat440
                have nb445 : Nb b302 (.slice A435 (((0 + k2) + 1) + (n - k2)) cap436) := nb_app2 nb432 (blk_lt x306) hat440
                have x306 := (hg439.block _ (blk_lt x306) nb432).trans x306
                have nb446 : Nb b408 (.slice A435 (((0 + k2) + 1) + (n - k2)) cap436) := nb_app2 nb433 (blk_lt x412) hat440
                have x412 := (hg439.block _ (blk_lt x412) nb433).trans x412
                have ho438 := own_joinP ho438
                have fr447 : ∀ kq, (.slice A435 (((0 + k2) + 1) + (n - k2)) cap436 : Value).ownBlock = some kq → wlj1.heap.size ≤ kq := fun kq e => by
                  have hs := (s428).size
                  rcases hat440 with h | h
                  · exact (show ∀ kq, Value.ownBlock _ = some kq → wlj1.heap.size ≤ kq from fr434) kq (h.symm.trans e)
                  · have := Option.some.inj (h.symm.trans e); omega
                refine F.q (v := .agg #[.int .i64 m, .slice A435 (((0 + k2) + 1) + (n - k2)) cap436]) (hr := (r_build rfl (vs := [(0, .int .i64 m), (1, .slice A435 (((0 + k2) + 1) + (n - k2)) cap436)]) (by kernel_rfl) (by kernel_rfl))) (h := ?_)
                refine W.ss (v := .agg #[.int .i64 m, .slice A435 (((0 + k2) + 1) + (n - k2)) cap436]) (j := 0) (news := [.int .i64 m, .slice A435 (((0 + k2) + 1) + (n - k2)) cap436]) (cs' := #[.int .i64 m, .slice A435 (((0 + k2) + 1) + (n - k2)) cap436]) s441 rfl (by kernel_rfl) rfl rfl (by kernel_rfl) (by kernel_rfl) x412 (by kernel_rfl) (by kernel_rfl) (by simp) (by kernel_rfl) (by kernel_rfl) (.inr (Nat.le_trans (s324).size (Nat.le_of_eq hb410))) (fun w448 g449 x450 s451 => ?_)
                have x306 := (g449.block _ (blk_lt x306) (fun e9 => ne418 (Option.some.inj e9))).trans x306
                have ho452 := own_grown ho438 g449 (fun j e1 e2 => by cases e2; exact nb446 e1.symm)
                refine F.endF [(2, .pointer (some ⟨b2, 0, none⟩)), (3, .pointer (some ⟨b9, 0, none⟩)), (4, .pointer (some ⟨b17, 0, none⟩)), (5, .bool false), (6, .int .i64 ((k2 : Nat) : Int)), (7, .pointer (some ⟨b408, 0, none⟩))] (fun U453 => ?_)
                have x6 := SG.blk s451 x6 (Option.some_ne_none _)
                have x13 := SG.blk s451 x13 (Option.some_ne_none _)
                have x21 := SG.blk s451 x21 (Option.some_ne_none _)
                have c454 := (SG.belowR c50 s451 (fun kq e => by cases e))
                exact h10 0 _ _ ⟨A435, (((0 + k2) + 1) + (n - k2)), cap436, b408, (fun iU9 => lk [(2, .pointer (some ⟨b2, 0, none⟩)), (3, .pointer (some ⟨b9, 0, none⟩)), (4, .pointer (some ⟨b17, 0, none⟩)), (5, .bool false), (6, .int .i64 ((k2 : Nat) : Int)), (7, .pointer (some ⟨b408, 0, none⟩))] iU9 (U453 iU9)), (by kernel_rfl), x6, x13, x21, x450, lo414, ho452, by omega, nb442, nb443, nb444, nb446, ne415, ne416, ne417, c454⟩
            · refine W.sn (fun b => .pointer (some ⟨b, 0, none⟩)) #[.int .i64 0, .slice none 0 0] 29 s307 rfl (by kernel_rfl) rfl (fun _ => by kernel_rfl) (fun b455 w456 hb457 k458 x459 s460 => ?_)
              refine F.nx ?_
              have lo461 : w.heap.size ≤ b455 := Nat.le_trans ((SG.belowR c50 s307 (fun kq e => by cases e))).size (Nat.le_of_eq hb457)
              have ne462 : b2 ≠ b455 := Nat.ne_of_lt (Nat.lt_of_lt_of_eq (Nat.lt_of_lt_of_le (blk_lt x6) (s307).size) hb457)
              have ne463 : b9 ≠ b455 := Nat.ne_of_lt (Nat.lt_of_lt_of_eq (Nat.lt_of_lt_of_le (blk_lt x13) (s307).size) hb457)
              have ne464 : b17 ≠ b455 := Nat.ne_of_lt (Nat.lt_of_lt_of_eq (Nat.lt_of_lt_of_le (blk_lt x21) (s307).size) hb457)
              have ne465 : b81 ≠ b455 := Nat.ne_of_lt (Nat.lt_of_lt_of_eq (blk_lt x85) hb457)
              have ne466 : b302 ≠ b455 := Nat.ne_of_lt (Nat.lt_of_lt_of_eq (blk_lt x306) hb457)
              have x85 := (k458.block _ (blk_lt x85)).trans x85
              have x306 := (k458.block _ (blk_lt x306)).trans x306
              have ho467 := own_empty (base := w.heap.size) (size := 4) x85 lo87
              replace ho467 : World.ownsRow _ _ _ _ _ _ (pipesV []) := ho467
              have nb468 : Nb b2 (.slice (some ⟨b81, 0, none⟩) 0 0) := nb_new ne88
              have nb469 : Nb b9 (.slice (some ⟨b81, 0, none⟩) 0 0) := nb_new ne89
              have nb470 : Nb b17 (.slice (some ⟨b81, 0, none⟩) 0 0) := nb_new ne90
              have nb471 : Nb b302 (.slice (some ⟨b81, 0, none⟩) 0 0) := nb_new (Ne.symm ne312)
              have nb472 : Nb b455 (.slice (some ⟨b81, 0, none⟩) 0 0) := nb_new (Ne.symm ne465)
              replace ho467 : World.ownsRow _ _ _ _ _ _ (pipesV []) := ho467
              refine W.sapR (e := 50) (size := 4) (base := w.heap.size) (v := .slice (some ⟨b81, 0, none⟩) 0 0) (A := A) (m := k2) (c := c) s460 rfl rfl rfl rfl (by kernel_rfl) (by kernel_rfl) (by kernel_rfl) ho467 (Rd.toP (Rd.kept ha (SG.belowR c50 s460 (fun kq e => by cases e))) (by omega)) (Fm.to hf (by have := (hf).le; omega)) (pipes_one _) (by omega) (by have := ((SG.belowR c50 s460 (fun kq e => by cases e))).size; omega) (.inr (fun kq e => by have := (s80).size; have := hb83; have e' := Option.some.inj e; simp at e'; omega)) (fun A473 cap474 w475 ho476 hg477 hat478 s479 => ?_)
              refine F.nx ?_
              have nb480 : Nb b2 (.slice A473 (0 + k2) cap474) := nb_app2 nb468 (Nat.lt_of_lt_of_le (blk_lt x6) (s460).size) hat478
              have nb481 : Nb b9 (.slice A473 (0 + k2) cap474) := nb_app2 nb469 (Nat.lt_of_lt_of_le (blk_lt x13) (s460).size) hat478
              have nb482 : Nb b17 (.slice A473 (0 + k2) cap474) := nb_app2 nb470 (Nat.lt_of_lt_of_le (blk_lt x21) (s460).size) hat478
              have nb483 : Nb b302 (.slice A473 (0 + k2) cap474) := nb_app2 nb471 (blk_lt x306) hat478
              have x306 := (hg477.block _ (blk_lt x306) nb471).trans x306
              have nb484 : Nb b455 (.slice A473 (0 + k2) cap474) := nb_app2 nb472 (blk_lt x459) hat478
              have x459 := (hg477.block _ (blk_lt x459) nb472).trans x459
              have ho476 := own_joinP ho476
              have fr485 : ∀ kq, (.slice A473 (0 + k2) cap474 : Value).ownBlock = some kq → wlj1.heap.size ≤ kq := fun kq e => by
                have hs := (s460).size
                rcases hat478 with h | h
                · exact (show ∀ kq, Value.ownBlock _ = some kq → wlj1.heap.size ≤ kq from (fun kq e => by have := (s80).size; have := hb83; have e' := Option.some.inj e; simp at e'; omega)) kq (h.symm.trans e)
                · have := Option.some.inj (h.symm.trans e); omega
              refine W.sap (e := 50) (size := 4) (base := w.heap.size) (m := 1) (v := .slice A473 (0 + k2) cap474) (c := 1) s479 rfl rfl rfl rfl (by kernel_rfl) (by kernel_rfl) (by kernel_rfl) ho476 x306 (by kernel_rfl) (by kernel_rfl) (by omega) (by omega) (by have := ((SG.belowR c50 s479 (fun kq e => by cases e))).size; omega) (.inr fr485) (fun g486 cap487 w488 ho489 hg490 hat491 hlt492 s493 => ?_)
              refine F.nx ?_
              have nb494 : Nb b2 (.slice (some ⟨g486, 0, none⟩) ((0 + k2) + 1) cap487) := nb_app nb480 (Nat.lt_of_lt_of_le (blk_lt x6) (s479).size) hat491
              have nb495 : Nb b9 (.slice (some ⟨g486, 0, none⟩) ((0 + k2) + 1) cap487) := nb_app nb481 (Nat.lt_of_lt_of_le (blk_lt x13) (s479).size) hat491
              have nb496 : Nb b17 (.slice (some ⟨g486, 0, none⟩) ((0 + k2) + 1) cap487) := nb_app nb482 (Nat.lt_of_lt_of_le (blk_lt x21) (s479).size) hat491
              have nb497 : Nb b302 (.slice (some ⟨g486, 0, none⟩) ((0 + k2) + 1) cap487) := nb_app nb483 (blk_lt x306) hat491
              have x306 := (hg490.block _ (blk_lt x306) nb483).trans x306
              have nb498 : Nb b455 (.slice (some ⟨g486, 0, none⟩) ((0 + k2) + 1) cap487) := nb_app nb484 (blk_lt x459) hat491
              have x459 := (hg490.block _ (blk_lt x459) nb484).trans x459
              have ho489 := own_snocP (x := x) ho489
              have fr499 : ∀ kq, (.slice (some ⟨g486, 0, none⟩) ((0 + k2) + 1) cap487 : Value).ownBlock = some kq → wlj1.heap.size ≤ kq := fun kq e => by
                have hs := (s479).size
                have e' : g486 = kq := by simpa [Value.ownBlock] using e
                rcases hat491 with h | h
                · exact (show ∀ kq, Value.ownBlock _ = some kq → wlj1.heap.size ≤ kq from fr485) kq (by rw [← e']; exact h)
                · omega
              refine W.sapR (e := 50) (size := 4) (base := w.heap.size) (v := .slice (some ⟨g486, 0, none⟩) ((0 + k2) + 1) cap487) (A := (sFrom A c k2 4)) (m := (n - k2)) (c := (c - k2)) s493 rfl rfl rfl rfl (by kernel_rfl) (by kernel_rfl) (by kernel_rfl) ho489 (Rd.fromP (Rd.kept ha (SG.belowR c50 s493 (fun kq e => by cases e))) (by omega) (hf).le) (Fm.from (size := 4) hf (by omega)) (pipes_one _) (by omega) (by have := ((SG.belowR c50 s493 (fun kq e => by cases e))).size; omega) (.inr fr499) (fun A500 cap501 w502 ho503 hg504 hat505 s506 => ?_)
              refine F.nx ?_
              have nb507 : Nb b2 (.slice A500 (((0 + k2) + 1) + (n - k2)) cap501) := nb_app2 nb494 (Nat.lt_of_lt_of_le (blk_lt x6) (s493).size) hat505
              have nb508 : Nb b9 (.slice A500 (((0 + k2) + 1) + (n - k2)) cap501) := nb_app2 nb495 (Nat.lt_of_lt_of_le (blk_lt x13) (s493).size) hat505
              have nb509 : Nb b17 (.slice A500 (((0 + k2) + 1) + (n - k2)) cap501) := nb_app2 nb496 (Nat.lt_of_lt_of_le (blk_lt x21) (s493).size) hat505
              have nb510 : Nb b302 (.slice A500 (((0 + k2) + 1) + (n - k2)) cap501) := nb_app2 nb497 (blk_lt x306) hat505
              have x306 := (hg504.block _ (blk_lt x306) nb497).trans x306
              have nb511 : Nb b455 (.slice A500 (((0 + k2) + 1) + (n - k2)) cap501) := nb_app2 nb498 (blk_lt x459) hat505
              have x459 := (hg504.block _ (blk_lt x459) nb498).trans x459
              have ho503 := own_joinP ho503
              have fr512 : ∀ kq, (.slice A500 (((0 + k2) + 1) + (n - k2)) cap501 : Value).ownBlock = some kq → wlj1.heap.size ≤ kq := fun kq e => by
                have hs := (s493).size
                rcases hat505 with h | h
                · exact (show ∀ kq, Value.ownBlock _ = some kq → wlj1.heap.size ≤ kq from fr499) kq (h.symm.trans e)
                · have := Option.some.inj (h.symm.trans e); omega
              refine F.q (v := .agg #[.int .i64 m, .slice A500 (((0 + k2) + 1) + (n - k2)) cap501]) (hr := (r_build rfl (vs := [(0, .int .i64 m), (1, .slice A500 (((0 + k2) + 1) + (n - k2)) cap501)]) (by kernel_rfl) (by kernel_rfl))) (h := ?_)
              refine W.ss (v := .agg #[.int .i64 m, .slice A500 (((0 + k2) + 1) + (n - k2)) cap501]) (j := 0) (news := [.int .i64 m, .slice A500 (((0 + k2) + 1) + (n - k2)) cap501]) (cs' := #[.int .i64 m, .slice A500 (((0 + k2) + 1) + (n - k2)) cap501]) s506 rfl (by kernel_rfl) rfl rfl (by kernel_rfl) (by kernel_rfl) x459 (by kernel_rfl) (by kernel_rfl) (by simp) (by kernel_rfl) (by kernel_rfl) (.inr (Nat.le_trans (s307).size (Nat.le_of_eq hb457))) (fun w513 g514 x515 s516 => ?_)
              have x306 := (g514.block _ (blk_lt x306) (fun e9 => ne466 (Option.some.inj e9))).trans x306
              have ho517 := own_grown ho503 g514 (fun j e1 e2 => by cases e2; exact nb511 e1.symm)
              refine F.endF [(2, .pointer (some ⟨b2, 0, none⟩)), (3, .pointer (some ⟨b9, 0, none⟩)), (4, .pointer (some ⟨b17, 0, none⟩)), (5, .bool false), (6, .int .i64 ((k2 : Nat) : Int)), (7, .pointer (some ⟨b455, 0, none⟩))] (fun U518 => ?_)
              have x6 := SG.blk s516 x6 (Option.some_ne_none _)
              have x13 := SG.blk s516 x13 (Option.some_ne_none _)
              have x21 := SG.blk s516 x21 (Option.some_ne_none _)
              have c519 := (SG.belowR c50 s516 (fun kq e => by cases e))
              exact h10 0 _ _ ⟨A500, (((0 + k2) + 1) + (n - k2)), cap501, b455, (fun iU9 => lk [(2, .pointer (some ⟨b2, 0, none⟩)), (3, .pointer (some ⟨b9, 0, none⟩)), (4, .pointer (some ⟨b17, 0, none⟩)), (5, .bool false), (6, .int .i64 ((k2 : Nat) : Int)), (7, .pointer (some ⟨b455, 0, none⟩))] iU9 (U518 iU9)), (by kernel_rfl), x6, x13, x21, x515, lo461, ho517, by omega, nb507, nb508, nb509, nb511, ne462, ne463, ne464, c519⟩
          · refine W.sn (fun b => .pointer (some ⟨b, 0, none⟩)) #[.int .i64 0, .slice none 0 0] 29 s86 rfl (by kernel_rfl) rfl (fun _ => by kernel_rfl) (fun b520 w521 hb522 k523 x524 s525 => ?_)
            refine F.nx ?_
            have lo526 : w.heap.size ≤ b520 := Nat.le_trans ((SG.belowR c50 s86 (fun kq e => by cases e))).size (Nat.le_of_eq hb522)
            have ne527 : b2 ≠ b520 := Nat.ne_of_lt (Nat.lt_of_lt_of_eq (Nat.lt_of_lt_of_le (blk_lt x6) (s86).size) hb522)
            have ne528 : b9 ≠ b520 := Nat.ne_of_lt (Nat.lt_of_lt_of_eq (Nat.lt_of_lt_of_le (blk_lt x13) (s86).size) hb522)
            have ne529 : b17 ≠ b520 := Nat.ne_of_lt (Nat.lt_of_lt_of_eq (Nat.lt_of_lt_of_le (blk_lt x21) (s86).size) hb522)
            have ne530 : b81 ≠ b520 := Nat.ne_of_lt (Nat.lt_of_lt_of_eq (blk_lt x85) hb522)
            have x85 := (k523.block _ (blk_lt x85)).trans x85
            refine W.sbr ?_ ?_
            · have ho531 := own_empty (base := w.heap.size) (size := 4) x85 lo87
              replace ho531 : World.ownsRow _ _ _ _ _ _ (pipesV []) := ho531
              have nb532 : Nb b2 (.slice (some ⟨b81, 0, none⟩) 0 0) := nb_new ne88
              have nb533 : Nb b9 (.slice (some ⟨b81, 0, none⟩) 0 0) := nb_new ne89
              have nb534 : Nb b17 (.slice (some ⟨b81, 0, none⟩) 0 0) := nb_new ne90
              have nb535 : Nb b520 (.slice (some ⟨b81, 0, none⟩) 0 0) := nb_new (Ne.symm ne530)
              replace ho531 : World.ownsRow _ _ _ _ _ _ (pipesV []) := ho531
              refine W.sapR (e := 50) (size := 4) (base := w.heap.size) (v := .slice (some ⟨b81, 0, none⟩) 0 0) (A := A) (m := k2) (c := c) s525 rfl rfl rfl rfl (by kernel_rfl) (by kernel_rfl) (by kernel_rfl) ho531 (Rd.toP (Rd.kept ha (SG.belowR c50 s525 (fun kq e => by cases e))) (by omega)) (Fm.to hf (by have := (hf).le; omega)) (pipes_one _) (by omega) (by have := ((SG.belowR c50 s525 (fun kq e => by cases e))).size; omega) (.inr (fun kq e => by have := (s80).size; have := hb83; have e' := Option.some.inj e; simp at e'; omega)) (fun A536 cap537 w538 ho539 hg540 hat541 s542 => ?_)
              refine F.nx ?_
              have nb543 : Nb b2 (.slice A536 (0 + k2) cap537) := nb_app2 nb532 (Nat.lt_of_lt_of_le (blk_lt x6) (s525).size) hat541
              have nb544 : Nb b9 (.slice A536 (0 + k2) cap537) := nb_app2 nb533 (Nat.lt_of_lt_of_le (blk_lt x13) (s525).size) hat541
              have nb545 : Nb b17 (.slice A536 (0 + k2) cap537) := nb_app2 nb534 (Nat.lt_of_lt_of_le (blk_lt x21) (s525).size) hat541
              have nb546 : Nb b520 (.slice A536 (0 + k2) cap537) := nb_app2 nb535 (blk_lt x524) hat541
              have x524 := (hg540.block _ (blk_lt x524) nb535).trans x524
              have ho539 := own_joinP ho539
              have fr547 : ∀ kq, (.slice A536 (0 + k2) cap537 : Value).ownBlock = some kq → wlj1.heap.size ≤ kq := fun kq e => by
                have hs := (s525).size
                rcases hat541 with h | h
                · exact (show ∀ kq, Value.ownBlock _ = some kq → wlj1.heap.size ≤ kq from (fun kq e => by have := (s80).size; have := hb83; have e' := Option.some.inj e; simp at e'; omega)) kq (h.symm.trans e)
                · have := Option.some.inj (h.symm.trans e); omega
              refine W.sn (fun b => .slice (some ⟨b, 0, none⟩) 1 1) #[.int .i64 x.id, .int .i64 x.fr, .int .i64 x.to, .int .i64 x.sz] 50 s542 rfl (by kernel_rfl) rfl (fun _ => by kernel_rfl) (fun b548 w549 hb550 k551 x552 s553 => ?_)
              refine F.nx ?_
              have lo554 : w.heap.size ≤ b548 := Nat.le_trans ((SG.belowR c50 s542 (fun kq e => by cases e))).size (Nat.le_of_eq hb550)
              have ne555 : b2 ≠ b548 := Nat.ne_of_lt (Nat.lt_of_lt_of_eq (Nat.lt_of_lt_of_le (blk_lt x6) (s542).size) hb550)
              have ne556 : b9 ≠ b548 := Nat.ne_of_lt (Nat.lt_of_lt_of_eq (Nat.lt_of_lt_of_le (blk_lt x13) (s542).size) hb550)
              have ne557 : b17 ≠ b548 := Nat.ne_of_lt (Nat.lt_of_lt_of_eq (Nat.lt_of_lt_of_le (blk_lt x21) (s542).size) hb550)
              have ne558 : b520 ≠ b548 := Nat.ne_of_lt (Nat.lt_of_lt_of_eq (blk_lt x524) hb550)
              have nb559 : Nb b548 (.slice A536 (0 + k2) cap537) := nb_hi ho539 (Nat.le_of_eq hb550)
              have x524 := (k551.block _ (blk_lt x524)).trans x524
              have ho560 := own_kept ho539 k551
              refine W.sap (e := 50) (size := 4) (base := w.heap.size) (m := 1) (v := .slice A536 (0 + k2) cap537) (c := 1) s553 rfl rfl rfl rfl (by kernel_rfl) (by kernel_rfl) (by kernel_rfl) ho560 x552 (by kernel_rfl) (by kernel_rfl) (by omega) (by omega) (by have := ((SG.belowR c50 s553 (fun kq e => by cases e))).size; omega) (.inr fr547) (fun g561 cap562 w563 ho564 hg565 hat566 hlt567 s568 => ?_)
              refine F.nx ?_
              have nb569 : Nb b2 (.slice (some ⟨g561, 0, none⟩) ((0 + k2) + 1) cap562) := nb_app nb543 (Nat.lt_of_lt_of_le (blk_lt x6) (s553).size) hat566
              have nb570 : Nb b9 (.slice (some ⟨g561, 0, none⟩) ((0 + k2) + 1) cap562) := nb_app nb544 (Nat.lt_of_lt_of_le (blk_lt x13) (s553).size) hat566
              have nb571 : Nb b17 (.slice (some ⟨g561, 0, none⟩) ((0 + k2) + 1) cap562) := nb_app nb545 (Nat.lt_of_lt_of_le (blk_lt x21) (s553).size) hat566
              have nb572 : Nb b520 (.slice (some ⟨g561, 0, none⟩) ((0 + k2) + 1) cap562) := nb_app nb546 (blk_lt x524) hat566
              have x524 := (hg565.block _ (blk_lt x524) nb546).trans x524
              have nb573 : Nb b548 (.slice (some ⟨g561, 0, none⟩) ((0 + k2) + 1) cap562) := nb_app nb559 (blk_lt x552) hat566
              have x552 := (hg565.block _ (blk_lt x552) nb559).trans x552
              have ho564 := own_snocP (x := x) ho564
              have fr574 : ∀ kq, (.slice (some ⟨g561, 0, none⟩) ((0 + k2) + 1) cap562 : Value).ownBlock = some kq → wlj1.heap.size ≤ kq := fun kq e => by
                have hs := (s553).size
                have e' : g561 = kq := by simpa [Value.ownBlock] using e
                rcases hat566 with h | h
                · exact (show ∀ kq, Value.ownBlock _ = some kq → wlj1.heap.size ≤ kq from fr547) kq (by rw [← e']; exact h)
                · omega
              refine W.sapR (e := 50) (size := 4) (base := w.heap.size) (v := .slice (some ⟨g561, 0, none⟩) ((0 + k2) + 1) cap562) (A := (sFrom A c k2 4)) (m := (n - k2)) (c := (c - k2)) s568 rfl rfl rfl rfl (by kernel_rfl) (by kernel_rfl) (by kernel_rfl) ho564 (Rd.fromP (Rd.kept ha (SG.belowR c50 s568 (fun kq e => by cases e))) (by omega) (hf).le) (Fm.from (size := 4) hf (by omega)) (pipes_one _) (by omega) (by have := ((SG.belowR c50 s568 (fun kq e => by cases e))).size; omega) (.inr fr574) (fun A575 cap576 w577 ho578 hg579 hat580 s581 => ?_)
              refine F.nx ?_
              have nb582 : Nb b2 (.slice A575 (((0 + k2) + 1) + (n - k2)) cap576) := nb_app2 nb569 (Nat.lt_of_lt_of_le (blk_lt x6) (s568).size) hat580
              have nb583 : Nb b9 (.slice A575 (((0 + k2) + 1) + (n - k2)) cap576) := nb_app2 nb570 (Nat.lt_of_lt_of_le (blk_lt x13) (s568).size) hat580
              have nb584 : Nb b17 (.slice A575 (((0 + k2) + 1) + (n - k2)) cap576) := nb_app2 nb571 (Nat.lt_of_lt_of_le (blk_lt x21) (s568).size) hat580
              have nb585 : Nb b520 (.slice A575 (((0 + k2) + 1) + (n - k2)) cap576) := nb_app2 nb572 (blk_lt x524) hat580
              have x524 := (hg579.block _ (blk_lt x524) nb572).trans x524
              have nb586 : Nb b548 (.slice A575 (((0 + k2) + 1) + (n - k2)) cap576) := nb_app2 nb573 (blk_lt x552) hat580
              have x552 := (hg579.block _ (blk_lt x552) nb573).trans x552
              have ho578 := own_joinP ho578
              have fr587 : ∀ kq, (.slice A575 (((0 + k2) + 1) + (n - k2)) cap576 : Value).ownBlock = some kq → wlj1.heap.size ≤ kq := fun kq e => by
                have hs := (s568).size
                rcases hat580 with h | h
                · exact (show ∀ kq, Value.ownBlock _ = some kq → wlj1.heap.size ≤ kq from fr574) kq (h.symm.trans e)
                · have := Option.some.inj (h.symm.trans e); omega
              refine F.q (v := .agg #[.int .i64 m, .slice A575 (((0 + k2) + 1) + (n - k2)) cap576]) (hr := (r_build rfl (vs := [(0, .int .i64 m), (1, .slice A575 (((0 + k2) + 1) + (n - k2)) cap576)]) (by kernel_rfl) (by kernel_rfl))) (h := ?_)
              refine W.ss (v := .agg #[.int .i64 m, .slice A575 (((0 + k2) + 1) + (n - k2)) cap576]) (j := 0) (news := [.int .i64 m, .slice A575 (((0 + k2) + 1) + (n - k2)) cap576]) (cs' := #[.int .i64 m, .slice A575 (((0 + k2) + 1) + (n - k2)) cap576]) s581 rfl (by kernel_rfl) rfl rfl (by kernel_rfl) (by kernel_rfl) x524 (by kernel_rfl) (by kernel_rfl) (by simp) (by kernel_rfl) (by kernel_rfl) (.inr (Nat.le_trans (s86).size (Nat.le_of_eq hb522))) (fun w588 g589 x590 s591 => ?_)
              have x552 := (g589.block _ (blk_lt x552) (fun e9 => ne558 (Option.some.inj e9).symm)).trans x552
              have ho592 := own_grown ho578 g589 (fun j e1 e2 => by cases e2; exact nb585 e1.symm)
              refine F.endF [(2, .pointer (some ⟨b2, 0, none⟩)), (3, .pointer (some ⟨b9, 0, none⟩)), (4, .pointer (some ⟨b17, 0, none⟩)), (5, .bool false), (6, .int .i64 ((k2 : Nat) : Int)), (7, .pointer (some ⟨b520, 0, none⟩))] (fun U593 => ?_)
              have x6 := SG.blk s591 x6 (Option.some_ne_none _)
              have x13 := SG.blk s591 x13 (Option.some_ne_none _)
              have x21 := SG.blk s591 x21 (Option.some_ne_none _)
              have c594 := (SG.belowR c50 s591 (fun kq e => by cases e))
              exact h10 0 _ _ ⟨A575, (((0 + k2) + 1) + (n - k2)), cap576, b520, (fun iU9 => lk [(2, .pointer (some ⟨b2, 0, none⟩)), (3, .pointer (some ⟨b9, 0, none⟩)), (4, .pointer (some ⟨b17, 0, none⟩)), (5, .bool false), (6, .int .i64 ((k2 : Nat) : Int)), (7, .pointer (some ⟨b520, 0, none⟩))] iU9 (U593 iU9)), (by kernel_rfl), x6, x13, x21, x590, lo526, ho592, by omega, nb582, nb583, nb584, nb585, ne527, ne528, ne529, c594⟩
            · refine W.sn (fun b => .slice (some ⟨b, 0, none⟩) 1 1) #[.int .i64 x.id, .int .i64 x.fr, .int .i64 x.to, .int .i64 x.sz] 50 s525 rfl (by kernel_rfl) rfl (fun _ => by kernel_rfl) (fun b595 w596 hb597 k598 x599 s600 => ?_)
              refine F.nx ?_
              have lo601 : w.heap.size ≤ b595 := Nat.le_trans ((SG.belowR c50 s525 (fun kq e => by cases e))).size (Nat.le_of_eq hb597)
              have ne602 : b2 ≠ b595 := Nat.ne_of_lt (Nat.lt_of_lt_of_eq (Nat.lt_of_lt_of_le (blk_lt x6) (s525).size) hb597)
              have ne603 : b9 ≠ b595 := Nat.ne_of_lt (Nat.lt_of_lt_of_eq (Nat.lt_of_lt_of_le (blk_lt x13) (s525).size) hb597)
              have ne604 : b17 ≠ b595 := Nat.ne_of_lt (Nat.lt_of_lt_of_eq (Nat.lt_of_lt_of_le (blk_lt x21) (s525).size) hb597)
              have ne605 : b81 ≠ b595 := Nat.ne_of_lt (Nat.lt_of_lt_of_eq (blk_lt x85) hb597)
              have ne606 : b520 ≠ b595 := Nat.ne_of_lt (Nat.lt_of_lt_of_eq (blk_lt x524) hb597)
              have x85 := (k598.block _ (blk_lt x85)).trans x85
              have x524 := (k598.block _ (blk_lt x524)).trans x524
              have ho607 := own_empty (base := w.heap.size) (size := 4) x85 lo87
              replace ho607 : World.ownsRow _ _ _ _ _ _ (pipesV []) := ho607
              have nb608 : Nb b2 (.slice (some ⟨b81, 0, none⟩) 0 0) := nb_new ne88
              have nb609 : Nb b9 (.slice (some ⟨b81, 0, none⟩) 0 0) := nb_new ne89
              have nb610 : Nb b17 (.slice (some ⟨b81, 0, none⟩) 0 0) := nb_new ne90
              have nb611 : Nb b520 (.slice (some ⟨b81, 0, none⟩) 0 0) := nb_new (Ne.symm ne530)
              have nb612 : Nb b595 (.slice (some ⟨b81, 0, none⟩) 0 0) := nb_new (Ne.symm ne605)
              replace ho607 : World.ownsRow _ _ _ _ _ _ (pipesV []) := ho607
              refine W.sapR (e := 50) (size := 4) (base := w.heap.size) (v := .slice (some ⟨b81, 0, none⟩) 0 0) (A := A) (m := k2) (c := c) s600 rfl rfl rfl rfl (by kernel_rfl) (by kernel_rfl) (by kernel_rfl) ho607 (Rd.toP (Rd.kept ha (SG.belowR c50 s600 (fun kq e => by cases e))) (by omega)) (Fm.to hf (by have := (hf).le; omega)) (pipes_one _) (by omega) (by have := ((SG.belowR c50 s600 (fun kq e => by cases e))).size; omega) (.inr (fun kq e => by have := (s80).size; have := hb83; have e' := Option.some.inj e; simp at e'; omega)) (fun A613 cap614 w615 ho616 hg617 hat618 s619 => ?_)
              refine F.nx ?_
              have nb620 : Nb b2 (.slice A613 (0 + k2) cap614) := nb_app2 nb608 (Nat.lt_of_lt_of_le (blk_lt x6) (s600).size) hat618
              have nb621 : Nb b9 (.slice A613 (0 + k2) cap614) := nb_app2 nb609 (Nat.lt_of_lt_of_le (blk_lt x13) (s600).size) hat618
              have nb622 : Nb b17 (.slice A613 (0 + k2) cap614) := nb_app2 nb610 (Nat.lt_of_lt_of_le (blk_lt x21) (s600).size) hat618
              have nb623 : Nb b520 (.slice A613 (0 + k2) cap614) := nb_app2 nb611 (blk_lt x524) hat618
              have x524 := (hg617.block _ (blk_lt x524) nb611).trans x524
              have nb624 : Nb b595 (.slice A613 (0 + k2) cap614) := nb_app2 nb612 (blk_lt x599) hat618
              have x599 := (hg617.block _ (blk_lt x599) nb612).trans x599
              have ho616 := own_joinP ho616
              have fr625 : ∀ kq, (.slice A613 (0 + k2) cap614 : Value).ownBlock = some kq → wlj1.heap.size ≤ kq := fun kq e => by
                have hs := (s600).size
                rcases hat618 with h | h
                · exact (show ∀ kq, Value.ownBlock _ = some kq → wlj1.heap.size ≤ kq from (fun kq e => by have := (s80).size; have := hb83; have e' := Option.some.inj e; simp at e'; omega)) kq (h.symm.trans e)
                · have := Option.some.inj (h.symm.trans e); omega
              refine W.sap (e := 50) (size := 4) (base := w.heap.size) (m := 1) (v := .slice A613 (0 + k2) cap614) (c := 1) s619 rfl rfl rfl rfl (by kernel_rfl) (by kernel_rfl) (by kernel_rfl) ho616 x599 (by kernel_rfl) (by kernel_rfl) (by omega) (by omega) (by have := ((SG.belowR c50 s619 (fun kq e => by cases e))).size; omega) (.inr fr625) (fun g626 cap627 w628 ho629 hg630 hat631 hlt632 s633 => ?_)
              refine F.nx ?_
              have nb634 : Nb b2 (.slice (some ⟨g626, 0, none⟩) ((0 + k2) + 1) cap627) := nb_app nb620 (Nat.lt_of_lt_of_le (blk_lt x6) (s619).size) hat631
              have nb635 : Nb b9 (.slice (some ⟨g626, 0, none⟩) ((0 + k2) + 1) cap627) := nb_app nb621 (Nat.lt_of_lt_of_le (blk_lt x13) (s619).size) hat631
              have nb636 : Nb b17 (.slice (some ⟨g626, 0, none⟩) ((0 + k2) + 1) cap627) := nb_app nb622 (Nat.lt_of_lt_of_le (blk_lt x21) (s619).size) hat631
              have nb637 : Nb b520 (.slice (some ⟨g626, 0, none⟩) ((0 + k2) + 1) cap627) := nb_app nb623 (blk_lt x524) hat631
              have x524 := (hg630.block _ (blk_lt x524) nb623).trans x524
              have nb638 : Nb b595 (.slice (some ⟨g626, 0, none⟩) ((0 + k2) + 1) cap627) := nb_app nb624 (blk_lt x599) hat631
              have x599 := (hg630.block _ (blk_lt x599) nb624).trans x599
              have ho629 := own_snocP (x := x) ho629
              have fr639 : ∀ kq, (.slice (some ⟨g626, 0, none⟩) ((0 + k2) + 1) cap627 : Value).ownBlock = some kq → wlj1.heap.size ≤ kq := fun kq e => by
                have hs := (s619).size
                have e' : g626 = kq := by simpa [Value.ownBlock] using e
                rcases hat631 with h | h
                · exact (show ∀ kq, Value.ownBlock _ = some kq → wlj1.heap.size ≤ kq from fr625) kq (by rw [← e']; exact h)
                · omega
              refine W.sapR (e := 50) (size := 4) (base := w.heap.size) (v := .slice (some ⟨g626, 0, none⟩) ((0 + k2) + 1) cap627) (A := (sFrom A c k2 4)) (m := (n - k2)) (c := (c - k2)) s633 rfl rfl rfl rfl (by kernel_rfl) (by kernel_rfl) (by kernel_rfl) ho629 (Rd.fromP (Rd.kept ha (SG.belowR c50 s633 (fun kq e => by cases e))) (by omega) (hf).le) (Fm.from (size := 4) hf (by omega)) (pipes_one _) (by omega) (by have := ((SG.belowR c50 s633 (fun kq e => by cases e))).size; omega) (.inr fr639) (fun A640 cap641 w642 ho643 hg644 hat645 s646 => ?_)
              refine F.nx ?_
              have nb647 : Nb b2 (.slice A640 (((0 + k2) + 1) + (n - k2)) cap641) := nb_app2 nb634 (Nat.lt_of_lt_of_le (blk_lt x6) (s633).size) hat645
              have nb648 : Nb b9 (.slice A640 (((0 + k2) + 1) + (n - k2)) cap641) := nb_app2 nb635 (Nat.lt_of_lt_of_le (blk_lt x13) (s633).size) hat645
              have nb649 : Nb b17 (.slice A640 (((0 + k2) + 1) + (n - k2)) cap641) := nb_app2 nb636 (Nat.lt_of_lt_of_le (blk_lt x21) (s633).size) hat645
              have nb650 : Nb b520 (.slice A640 (((0 + k2) + 1) + (n - k2)) cap641) := nb_app2 nb637 (blk_lt x524) hat645
              have x524 := (hg644.block _ (blk_lt x524) nb637).trans x524
              have nb651 : Nb b595 (.slice A640 (((0 + k2) + 1) + (n - k2)) cap641) := nb_app2 nb638 (blk_lt x599) hat645
              have x599 := (hg644.block _ (blk_lt x599) nb638).trans x599
              have ho643 := own_joinP ho643
              have fr652 : ∀ kq, (.slice A640 (((0 + k2) + 1) + (n - k2)) cap641 : Value).ownBlock = some kq → wlj1.heap.size ≤ kq := fun kq e => by
                have hs := (s633).size
                rcases hat645 with h | h
                · exact (show ∀ kq, Value.ownBlock _ = some kq → wlj1.heap.size ≤ kq from fr639) kq (h.symm.trans e)
                · have := Option.some.inj (h.symm.trans e); omega
              refine F.q (v := .agg #[.int .i64 m, .slice A640 (((0 + k2) + 1) + (n - k2)) cap641]) (hr := (r_build rfl (vs := [(0, .int .i64 m), (1, .slice A640 (((0 + k2) + 1) + (n - k2)) cap641)]) (by kernel_rfl) (by kernel_rfl))) (h := ?_)
              refine W.ss (v := .agg #[.int .i64 m, .slice A640 (((0 + k2) + 1) + (n - k2)) cap641]) (j := 0) (news := [.int .i64 m, .slice A640 (((0 + k2) + 1) + (n - k2)) cap641]) (cs' := #[.int .i64 m, .slice A640 (((0 + k2) + 1) + (n - k2)) cap641]) s646 rfl (by kernel_rfl) rfl rfl (by kernel_rfl) (by kernel_rfl) x524 (by kernel_rfl) (by kernel_rfl) (by simp) (by kernel_rfl) (by kernel_rfl) (.inr (Nat.le_trans (s86).size (Nat.le_of_eq hb522))) (fun w653 g654 x655 s656 => ?_)
              have x599 := (g654.block _ (blk_lt x599) (fun e9 => ne606 (Option.some.inj e9).symm)).trans x599
              have ho657 := own_grown ho643 g654 (fun j e1 e2 => by cases e2; exact nb650 e1.symm)
              refine F.endF [(2, .pointer (some ⟨b2, 0, none⟩)), (3, .pointer (some ⟨b9, 0, none⟩)), (4, .pointer (some ⟨b17, 0, none⟩)), (5, .bool false), (6, .int .i64 ((k2 : Nat) : Int)), (7, .pointer (some ⟨b520, 0, none⟩))] (fun U658 => ?_)
              have x6 := SG.blk s656 x6 (Option.some_ne_none _)
              have x13 := SG.blk s656 x13 (Option.some_ne_none _)
              have x21 := SG.blk s656 x21 (Option.some_ne_none _)
              have c659 := (SG.belowR c50 s656 (fun kq e => by cases e))
              exact h10 0 _ _ ⟨A640, (((0 + k2) + 1) + (n - k2)), cap641, b520, (fun iU9 => lk [(2, .pointer (some ⟨b2, 0, none⟩)), (3, .pointer (some ⟨b9, 0, none⟩)), (4, .pointer (some ⟨b17, 0, none⟩)), (5, .bool false), (6, .int .i64 ((k2 : Nat) : Int)), (7, .pointer (some ⟨b520, 0, none⟩))] iU9 (U658 iU9)), (by kernel_rfl), x6, x13, x21, x655, lo526, ho657, by omega, nb647, nb648, nb649, nb650, ne527, ne528, ne529, c659⟩
        · refine W.sn (fun b => .slice (some ⟨b, 0, none⟩) 1 1) #[.int .i64 x.id, .int .i64 x.fr, .int .i64 x.to, .int .i64 x.sz] 50 s80 rfl (by kernel_rfl) rfl (fun _ => by kernel_rfl) (fun b660 w661 hb662 k663 x664 s665 => ?_)
          refine F.nx ?_
          have lo666 : w.heap.size ≤ b660 := Nat.le_trans ((SG.belowR c50 s80 (fun kq e => by cases e))).size (Nat.le_of_eq hb662)
          have ne667 : b2 ≠ b660 := Nat.ne_of_lt (Nat.lt_of_lt_of_eq (Nat.lt_of_lt_of_le (blk_lt x6) (s80).size) hb662)
          have ne668 : b9 ≠ b660 := Nat.ne_of_lt (Nat.lt_of_lt_of_eq (Nat.lt_of_lt_of_le (blk_lt x13) (s80).size) hb662)
          have ne669 : b17 ≠ b660 := Nat.ne_of_lt (Nat.lt_of_lt_of_eq (Nat.lt_of_lt_of_le (blk_lt x21) (s80).size) hb662)
          refine W.sbr ?_ ?_
          · refine W.sn (fun b => .slice (some ⟨b, 0, none⟩) 0 0) #[] 50 s665 rfl (by kernel_rfl) rfl (fun _ => by kernel_rfl) (fun b670 w671 hb672 k673 x674 s675 => ?_)
            refine F.nx ?_
            have lo676 : w.heap.size ≤ b670 := Nat.le_trans ((SG.belowR c50 s665 (fun kq e => by cases e))).size (Nat.le_of_eq hb672)
            have ne677 : b2 ≠ b670 := Nat.ne_of_lt (Nat.lt_of_lt_of_eq (Nat.lt_of_lt_of_le (blk_lt x6) (s665).size) hb672)
            have ne678 : b9 ≠ b670 := Nat.ne_of_lt (Nat.lt_of_lt_of_eq (Nat.lt_of_lt_of_le (blk_lt x13) (s665).size) hb672)
            have ne679 : b17 ≠ b670 := Nat.ne_of_lt (Nat.lt_of_lt_of_eq (Nat.lt_of_lt_of_le (blk_lt x21) (s665).size) hb672)
            have ne680 : b660 ≠ b670 := Nat.ne_of_lt (Nat.lt_of_lt_of_eq (blk_lt x664) hb672)
            have x664 := (k673.block _ (blk_lt x664)).trans x664
            refine W.sbr ?_ ?_
            · have ho681 := own_empty (base := w.heap.size) (size := 4) x674 lo676
              replace ho681 : World.ownsRow _ _ _ _ _ _ (pipesV []) := ho681
              have nb682 : Nb b2 (.slice (some ⟨b670, 0, none⟩) 0 0) := nb_new ne677
              have nb683 : Nb b9 (.slice (some ⟨b670, 0, none⟩) 0 0) := nb_new ne678
              have nb684 : Nb b17 (.slice (some ⟨b670, 0, none⟩) 0 0) := nb_new ne679
              have nb685 : Nb b660 (.slice (some ⟨b670, 0, none⟩) 0 0) := nb_new ne680
              replace ho681 : World.ownsRow _ _ _ _ _ _ (pipesV []) := ho681
              refine W.sapR (e := 50) (size := 4) (base := w.heap.size) (v := .slice (some ⟨b670, 0, none⟩) 0 0) (A := A) (m := k2) (c := c) s675 rfl rfl rfl rfl (by kernel_rfl) (by kernel_rfl) (by kernel_rfl) ho681 (Rd.toP (Rd.kept ha (SG.belowR c50 s675 (fun kq e => by cases e))) (by omega)) (Fm.to hf (by have := (hf).le; omega)) (pipes_one _) (by omega) (by have := ((SG.belowR c50 s675 (fun kq e => by cases e))).size; omega) (.inr (fun kq e => by have := (s665).size; have := hb672; have e' := Option.some.inj e; simp at e'; omega)) (fun A686 cap687 w688 ho689 hg690 hat691 s692 => ?_)
              refine F.nx ?_
              have nb693 : Nb b2 (.slice A686 (0 + k2) cap687) := nb_app2 nb682 (Nat.lt_of_lt_of_le (blk_lt x6) (s675).size) hat691
              have nb694 : Nb b9 (.slice A686 (0 + k2) cap687) := nb_app2 nb683 (Nat.lt_of_lt_of_le (blk_lt x13) (s675).size) hat691
              have nb695 : Nb b17 (.slice A686 (0 + k2) cap687) := nb_app2 nb684 (Nat.lt_of_lt_of_le (blk_lt x21) (s675).size) hat691
              have nb696 : Nb b660 (.slice A686 (0 + k2) cap687) := nb_app2 nb685 (blk_lt x664) hat691
              have x664 := (hg690.block _ (blk_lt x664) nb685).trans x664
              have ho689 := own_joinP ho689
              have fr697 : ∀ kq, (.slice A686 (0 + k2) cap687 : Value).ownBlock = some kq → wlj1.heap.size ≤ kq := fun kq e => by
                have hs := (s675).size
                rcases hat691 with h | h
                · exact (show ∀ kq, Value.ownBlock _ = some kq → wlj1.heap.size ≤ kq from (fun kq e => by have := (s665).size; have := hb672; have e' := Option.some.inj e; simp at e'; omega)) kq (h.symm.trans e)
                · have := Option.some.inj (h.symm.trans e); omega
              refine W.sbr ?_ ?_
              · refine W.sap (e := 50) (size := 4) (base := w.heap.size) (m := 1) (v := .slice A686 (0 + k2) cap687) (c := 1) s692 rfl rfl rfl rfl (by kernel_rfl) (by kernel_rfl) (by kernel_rfl) ho689 x664 (by kernel_rfl) (by kernel_rfl) (by omega) (by omega) (by have := ((SG.belowR c50 s692 (fun kq e => by cases e))).size; omega) (.inr fr697) (fun g698 cap699 w700 ho701 hg702 hat703 hlt704 s705 => ?_)
                refine F.nx ?_
                have nb706 : Nb b2 (.slice (some ⟨g698, 0, none⟩) ((0 + k2) + 1) cap699) := nb_app nb693 (Nat.lt_of_lt_of_le (blk_lt x6) (s692).size) hat703
                have nb707 : Nb b9 (.slice (some ⟨g698, 0, none⟩) ((0 + k2) + 1) cap699) := nb_app nb694 (Nat.lt_of_lt_of_le (blk_lt x13) (s692).size) hat703
                have nb708 : Nb b17 (.slice (some ⟨g698, 0, none⟩) ((0 + k2) + 1) cap699) := nb_app nb695 (Nat.lt_of_lt_of_le (blk_lt x21) (s692).size) hat703
                have nb709 : Nb b660 (.slice (some ⟨g698, 0, none⟩) ((0 + k2) + 1) cap699) := nb_app nb696 (blk_lt x664) hat703
                have x664 := (hg702.block _ (blk_lt x664) nb696).trans x664
                have ho701 := own_snocP (x := x) ho701
                have fr710 : ∀ kq, (.slice (some ⟨g698, 0, none⟩) ((0 + k2) + 1) cap699 : Value).ownBlock = some kq → wlj1.heap.size ≤ kq := fun kq e => by
                  have hs := (s692).size
                  have e' : g698 = kq := by simpa [Value.ownBlock] using e
                  rcases hat703 with h | h
                  · exact (show ∀ kq, Value.ownBlock _ = some kq → wlj1.heap.size ≤ kq from fr697) kq (by rw [← e']; exact h)
                  · omega
                refine W.sbr ?_ ?_
                · refine W.sapR (e := 50) (size := 4) (base := w.heap.size) (v := .slice (some ⟨g698, 0, none⟩) ((0 + k2) + 1) cap699) (A := (sFrom A c k2 4)) (m := (n - k2)) (c := (c - k2)) s705 rfl rfl rfl rfl (by kernel_rfl) (by kernel_rfl) (by kernel_rfl) ho701 (Rd.fromP (Rd.kept ha (SG.belowR c50 s705 (fun kq e => by cases e))) (by omega) (hf).le) (Fm.from (size := 4) hf (by omega)) (pipes_one _) (by omega) (by have := ((SG.belowR c50 s705 (fun kq e => by cases e))).size; omega) (.inr fr710) (fun A711 cap712 w713 ho714 hg715 hat716 s717 => ?_)
                  refine F.nx ?_
                  have nb718 : Nb b2 (.slice A711 (((0 + k2) + 1) + (n - k2)) cap712) := nb_app2 nb706 (Nat.lt_of_lt_of_le (blk_lt x6) (s705).size) hat716
                  have nb719 : Nb b9 (.slice A711 (((0 + k2) + 1) + (n - k2)) cap712) := nb_app2 nb707 (Nat.lt_of_lt_of_le (blk_lt x13) (s705).size) hat716
                  have nb720 : Nb b17 (.slice A711 (((0 + k2) + 1) + (n - k2)) cap712) := nb_app2 nb708 (Nat.lt_of_lt_of_le (blk_lt x21) (s705).size) hat716
                  have nb721 : Nb b660 (.slice A711 (((0 + k2) + 1) + (n - k2)) cap712) := nb_app2 nb709 (blk_lt x664) hat716
                  have x664 := (hg715.block _ (blk_lt x664) nb709).trans x664
                  have ho714 := own_joinP ho714
                  have fr722 : ∀ kq, (.slice A711 (((0 + k2) + 1) + (n - k2)) cap712 : Value).ownBlock = some kq → wlj1.heap.size ≤ kq := fun kq e => by
                    have hs := (s705).size
                    rcases hat716 with h | h
                    · exact (show ∀ kq, Value.ownBlock _ = some kq → wlj1.heap.size ≤ kq from fr710) kq (h.symm.trans e)
                    · have := Option.some.inj (h.symm.trans e); omega
                  refine F.q (v := .agg #[.int .i64 m, .slice A711 (((0 + k2) + 1) + (n - k2)) cap712]) (hr := (r_build rfl (vs := [(0, .int .i64 m), (1, .slice A711 (((0 + k2) + 1) + (n - k2)) cap712)]) (by kernel_rfl) (by kernel_rfl))) (h := ?_)
                  refine W.sn (fun b => .pointer (some ⟨b, 0, none⟩)) #[.int .i64 0, .slice none 0 0] 29 s717 rfl (by kernel_rfl) rfl (fun _ => by kernel_rfl) (fun b723 w724 hb725 k726 x727 s728 => ?_)
                  refine F.nx ?_
                  have lo729 : w.heap.size ≤ b723 := Nat.le_trans ((SG.belowR c50 s717 (fun kq e => by cases e))).size (Nat.le_of_eq hb725)
                  have ne730 : b2 ≠ b723 := Nat.ne_of_lt (Nat.lt_of_lt_of_eq (Nat.lt_of_lt_of_le (blk_lt x6) (s717).size) hb725)
                  have ne731 : b9 ≠ b723 := Nat.ne_of_lt (Nat.lt_of_lt_of_eq (Nat.lt_of_lt_of_le (blk_lt x13) (s717).size) hb725)
                  have ne732 : b17 ≠ b723 := Nat.ne_of_lt (Nat.lt_of_lt_of_eq (Nat.lt_of_lt_of_le (blk_lt x21) (s717).size) hb725)
                  have ne733 : b660 ≠ b723 := Nat.ne_of_lt (Nat.lt_of_lt_of_eq (blk_lt x664) hb725)
                  have nb734 : Nb b723 (.slice A711 (((0 + k2) + 1) + (n - k2)) cap712) := nb_hi ho714 (Nat.le_of_eq hb725)
                  have x664 := (k726.block _ (blk_lt x664)).trans x664
                  have ho735 := own_kept ho714 k726
                  refine W.ss (v := .agg #[.int .i64 m, .slice A711 (((0 + k2) + 1) + (n - k2)) cap712]) (j := 0) (news := [.int .i64 m, .slice A711 (((0 + k2) + 1) + (n - k2)) cap712]) (cs' := #[.int .i64 m, .slice A711 (((0 + k2) + 1) + (n - k2)) cap712]) s728 rfl (by kernel_rfl) rfl rfl (by kernel_rfl) (by kernel_rfl) x727 (by kernel_rfl) (by kernel_rfl) (by simp) (by kernel_rfl) (by kernel_rfl) (.inr (Nat.le_trans (s717).size (Nat.le_of_eq hb725))) (fun w736 g737 x738 s739 => ?_)
                  have x664 := (g737.block _ (blk_lt x664) (fun e9 => ne733 (Option.some.inj e9))).trans x664
                  have ho740 := own_grown ho735 g737 (fun j e1 e2 => by cases e2; exact nb734 e1.symm)
                  refine F.endF [(2, .pointer (some ⟨b2, 0, none⟩)), (3, .pointer (some ⟨b9, 0, none⟩)), (4, .pointer (some ⟨b17, 0, none⟩)), (5, .bool false), (6, .int .i64 ((k2 : Nat) : Int)), (7, .pointer (some ⟨b723, 0, none⟩))] (fun U741 => ?_)
                  have x6 := SG.blk s739 x6 (Option.some_ne_none _)
                  have x13 := SG.blk s739 x13 (Option.some_ne_none _)
                  have x21 := SG.blk s739 x21 (Option.some_ne_none _)
                  have c742 := (SG.belowR c50 s739 (fun kq e => by cases e))
                  exact h10 0 _ _ ⟨A711, (((0 + k2) + 1) + (n - k2)), cap712, b723, (fun iU9 => lk [(2, .pointer (some ⟨b2, 0, none⟩)), (3, .pointer (some ⟨b9, 0, none⟩)), (4, .pointer (some ⟨b17, 0, none⟩)), (5, .bool false), (6, .int .i64 ((k2 : Nat) : Int)), (7, .pointer (some ⟨b723, 0, none⟩))] iU9 (U741 iU9)), (by kernel_rfl), x6, x13, x21, x738, lo729, ho740, by omega, nb718, nb719, nb720, nb734, ne730, ne731, ne732, c742⟩
                · refine W.sn (fun b => .pointer (some ⟨b, 0, none⟩)) #[.int .i64 0, .slice none 0 0] 29 s705 rfl (by kernel_rfl) rfl (fun _ => by kernel_rfl) (fun b743 w744 hb745 k746 x747 s748 => ?_)
                  refine F.nx ?_
                  have lo749 : w.heap.size ≤ b743 := Nat.le_trans ((SG.belowR c50 s705 (fun kq e => by cases e))).size (Nat.le_of_eq hb745)
                  have ne750 : b2 ≠ b743 := Nat.ne_of_lt (Nat.lt_of_lt_of_eq (Nat.lt_of_lt_of_le (blk_lt x6) (s705).size) hb745)
                  have ne751 : b9 ≠ b743 := Nat.ne_of_lt (Nat.lt_of_lt_of_eq (Nat.lt_of_lt_of_le (blk_lt x13) (s705).size) hb745)
                  have ne752 : b17 ≠ b743 := Nat.ne_of_lt (Nat.lt_of_lt_of_eq (Nat.lt_of_lt_of_le (blk_lt x21) (s705).size) hb745)
                  have ne753 : b660 ≠ b743 := Nat.ne_of_lt (Nat.lt_of_lt_of_eq (blk_lt x664) hb745)
                  have nb754 : Nb b743 (.slice (some ⟨g698, 0, none⟩) ((0 + k2) + 1) cap699) := nb_hi ho701 (Nat.le_of_eq hb745)
                  have x664 := (k746.block _ (blk_lt x664)).trans x664
                  have ho755 := own_kept ho701 k746
                  refine W.sapR (e := 50) (size := 4) (base := w.heap.size) (v := .slice (some ⟨g698, 0, none⟩) ((0 + k2) + 1) cap699) (A := (sFrom A c k2 4)) (m := (n - k2)) (c := (c - k2)) s748 rfl rfl rfl rfl (by kernel_rfl) (by kernel_rfl) (by kernel_rfl) ho755 (Rd.fromP (Rd.kept ha (SG.belowR c50 s748 (fun kq e => by cases e))) (by omega) (hf).le) (Fm.from (size := 4) hf (by omega)) (pipes_one _) (by omega) (by have := ((SG.belowR c50 s748 (fun kq e => by cases e))).size; omega) (.inr fr710) (fun A756 cap757 w758 ho759 hg760 hat761 s762 => ?_)
                  refine F.nx ?_
                  have nb763 : Nb b2 (.slice A756 (((0 + k2) + 1) + (n - k2)) cap757) := nb_app2 nb706 (Nat.lt_of_lt_of_le (blk_lt x6) (s748).size) hat761
                  have nb764 : Nb b9 (.slice A756 (((0 + k2) + 1) + (n - k2)) cap757) := nb_app2 nb707 (Nat.lt_of_lt_of_le (blk_lt x13) (s748).size) hat761
                  have nb765 : Nb b17 (.slice A756 (((0 + k2) + 1) + (n - k2)) cap757) := nb_app2 nb708 (Nat.lt_of_lt_of_le (blk_lt x21) (s748).size) hat761
                  have nb766 : Nb b660 (.slice A756 (((0 + k2) + 1) + (n - k2)) cap757) := nb_app2 nb709 (blk_lt x664) hat761
                  have x664 := (hg760.block _ (blk_lt x664) nb709).trans x664
                  have nb767 : Nb b743 (.slice A756 (((0 + k2) + 1) + (n - k2)) cap757) := nb_app2 nb754 (blk_lt x747) hat761
                  have x747 := (hg760.block _ (blk_lt x747) nb754).trans x747
                  have ho759 := own_joinP ho759
                  have fr768 : ∀ kq, (.slice A756 (((0 + k2) + 1) + (n - k2)) cap757 : Value).ownBlock = some kq → wlj1.heap.size ≤ kq := fun kq e => by
                    have hs := (s748).size
                    rcases hat761 with h | h
                    · exact (show ∀ kq, Value.ownBlock _ = some kq → wlj1.heap.size ≤ kq from fr710) kq (h.symm.trans e)
                    · have := Option.some.inj (h.symm.trans e); omega
                  refine F.q (v := .agg #[.int .i64 m, .slice A756 (((0 + k2) + 1) + (n - k2)) cap757]) (hr := (r_build rfl (vs := [(0, .int .i64 m), (1, .slice A756 (((0 + k2) + 1) + (n - k2)) cap757)]) (by kernel_rfl) (by kernel_rfl))) (h := ?_)
                  refine W.ss (v := .agg #[.int .i64 m, .slice A756 (((0 + k2) + 1) + (n - k2)) cap757]) (j := 0) (news := [.int .i64 m, .slice A756 (((0 + k2) + 1) + (n - k2)) cap757]) (cs' := #[.int .i64 m, .slice A756 (((0 + k2) + 1) + (n - k2)) cap757]) s762 rfl (by kernel_rfl) rfl rfl (by kernel_rfl) (by kernel_rfl) x747 (by kernel_rfl) (by kernel_rfl) (by simp) (by kernel_rfl) (by kernel_rfl) (.inr (Nat.le_trans (s705).size (Nat.le_of_eq hb745))) (fun w769 g770 x771 s772 => ?_)
                  have x664 := (g770.block _ (blk_lt x664) (fun e9 => ne753 (Option.some.inj e9))).trans x664
                  have ho773 := own_grown ho759 g770 (fun j e1 e2 => by cases e2; exact nb767 e1.symm)
                  refine F.endF [(2, .pointer (some ⟨b2, 0, none⟩)), (3, .pointer (some ⟨b9, 0, none⟩)), (4, .pointer (some ⟨b17, 0, none⟩)), (5, .bool false), (6, .int .i64 ((k2 : Nat) : Int)), (7, .pointer (some ⟨b743, 0, none⟩))] (fun U774 => ?_)
                  have x6 := SG.blk s772 x6 (Option.some_ne_none _)
                  have x13 := SG.blk s772 x13 (Option.some_ne_none _)
                  have x21 := SG.blk s772 x21 (Option.some_ne_none _)
                  have c775 := (SG.belowR c50 s772 (fun kq e => by cases e))
                  exact h10 0 _ _ ⟨A756, (((0 + k2) + 1) + (n - k2)), cap757, b743, (fun iU9 => lk [(2, .pointer (some ⟨b2, 0, none⟩)), (3, .pointer (some ⟨b9, 0, none⟩)), (4, .pointer (some ⟨b17, 0, none⟩)), (5, .bool false), (6, .int .i64 ((k2 : Nat) : Int)), (7, .pointer (some ⟨b743, 0, none⟩))] iU9 (U774 iU9)), (by kernel_rfl), x6, x13, x21, x771, lo749, ho773, by omega, nb763, nb764, nb765, nb767, ne750, ne751, ne752, c775⟩
              · refine W.sn (fun b => .pointer (some ⟨b, 0, none⟩)) #[.int .i64 0, .slice none 0 0] 29 s692 rfl (by kernel_rfl) rfl (fun _ => by kernel_rfl) (fun b776 w777 hb778 k779 x780 s781 => ?_)
                refine F.nx ?_
                have lo782 : w.heap.size ≤ b776 := Nat.le_trans ((SG.belowR c50 s692 (fun kq e => by cases e))).size (Nat.le_of_eq hb778)
                have ne783 : b2 ≠ b776 := Nat.ne_of_lt (Nat.lt_of_lt_of_eq (Nat.lt_of_lt_of_le (blk_lt x6) (s692).size) hb778)
                have ne784 : b9 ≠ b776 := Nat.ne_of_lt (Nat.lt_of_lt_of_eq (Nat.lt_of_lt_of_le (blk_lt x13) (s692).size) hb778)
                have ne785 : b17 ≠ b776 := Nat.ne_of_lt (Nat.lt_of_lt_of_eq (Nat.lt_of_lt_of_le (blk_lt x21) (s692).size) hb778)
                have ne786 : b660 ≠ b776 := Nat.ne_of_lt (Nat.lt_of_lt_of_eq (blk_lt x664) hb778)
                have nb787 : Nb b776 (.slice A686 (0 + k2) cap687) := nb_hi ho689 (Nat.le_of_eq hb778)
                have x664 := (k779.block _ (blk_lt x664)).trans x664
                have ho788 := own_kept ho689 k779
                refine W.sap (e := 50) (size := 4) (base := w.heap.size) (m := 1) (v := .slice A686 (0 + k2) cap687) (c := 1) s781 rfl rfl rfl rfl (by kernel_rfl) (by kernel_rfl) (by kernel_rfl) ho788 x664 (by kernel_rfl) (by kernel_rfl) (by omega) (by omega) (by have := ((SG.belowR c50 s781 (fun kq e => by cases e))).size; omega) (.inr fr697) (fun g789 cap790 w791 ho792 hg793 hat794 hlt795 s796 => ?_)
                refine F.nx ?_
                have nb797 : Nb b2 (.slice (some ⟨g789, 0, none⟩) ((0 + k2) + 1) cap790) := nb_app nb693 (Nat.lt_of_lt_of_le (blk_lt x6) (s781).size) hat794
                have nb798 : Nb b9 (.slice (some ⟨g789, 0, none⟩) ((0 + k2) + 1) cap790) := nb_app nb694 (Nat.lt_of_lt_of_le (blk_lt x13) (s781).size) hat794
                have nb799 : Nb b17 (.slice (some ⟨g789, 0, none⟩) ((0 + k2) + 1) cap790) := nb_app nb695 (Nat.lt_of_lt_of_le (blk_lt x21) (s781).size) hat794
                have nb800 : Nb b660 (.slice (some ⟨g789, 0, none⟩) ((0 + k2) + 1) cap790) := nb_app nb696 (blk_lt x664) hat794
                have x664 := (hg793.block _ (blk_lt x664) nb696).trans x664
                have nb801 : Nb b776 (.slice (some ⟨g789, 0, none⟩) ((0 + k2) + 1) cap790) := nb_app nb787 (blk_lt x780) hat794
                have x780 := (hg793.block _ (blk_lt x780) nb787).trans x780
                have ho792 := own_snocP (x := x) ho792
                have fr802 : ∀ kq, (.slice (some ⟨g789, 0, none⟩) ((0 + k2) + 1) cap790 : Value).ownBlock = some kq → wlj1.heap.size ≤ kq := fun kq e => by
                  have hs := (s781).size
                  have e' : g789 = kq := by simpa [Value.ownBlock] using e
                  rcases hat794 with h | h
                  · exact (show ∀ kq, Value.ownBlock _ = some kq → wlj1.heap.size ≤ kq from fr697) kq (by rw [← e']; exact h)
                  · omega
                refine W.sapR (e := 50) (size := 4) (base := w.heap.size) (v := .slice (some ⟨g789, 0, none⟩) ((0 + k2) + 1) cap790) (A := (sFrom A c k2 4)) (m := (n - k2)) (c := (c - k2)) s796 rfl rfl rfl rfl (by kernel_rfl) (by kernel_rfl) (by kernel_rfl) ho792 (Rd.fromP (Rd.kept ha (SG.belowR c50 s796 (fun kq e => by cases e))) (by omega) (hf).le) (Fm.from (size := 4) hf (by omega)) (pipes_one _) (by omega) (by have := ((SG.belowR c50 s796 (fun kq e => by cases e))).size; omega) (.inr fr802) (fun A803 cap804 w805 ho806 hg807 hat808 s809 => ?_)
                refine F.nx ?_
                have nb810 : Nb b2 (.slice A803 (((0 + k2) + 1) + (n - k2)) cap804) := nb_app2 nb797 (Nat.lt_of_lt_of_le (blk_lt x6) (s796).size) hat808
                have nb811 : Nb b9 (.slice A803 (((0 + k2) + 1) + (n - k2)) cap804) := nb_app2 nb798 (Nat.lt_of_lt_of_le (blk_lt x13) (s796).size) hat808
                have nb812 : Nb b17 (.slice A803 (((0 + k2) + 1) + (n - k2)) cap804) := nb_app2 nb799 (Nat.lt_of_lt_of_le (blk_lt x21) (s796).size) hat808
                have nb813 : Nb b660 (.slice A803 (((0 + k2) + 1) + (n - k2)) cap804) := nb_app2 nb800 (blk_lt x664) hat808
                have x664 := (hg807.block _ (blk_lt x664) nb800).trans x664
                have nb814 : Nb b776 (.slice A803 (((0 + k2) + 1) + (n - k2)) cap804) := nb_app2 nb801 (blk_lt x780) hat808
                have x780 := (hg807.block _ (blk_lt x780) nb801).trans x780
                have ho806 := own_joinP ho806
                have fr815 : ∀ kq, (.slice A803 (((0 + k2) + 1) + (n - k2)) cap804 : Value).ownBlock = some kq → wlj1.heap.size ≤ kq := fun kq e => by
                  have hs := (s796).size
                  rcases hat808 with h | h
                  · exact (show ∀ kq, Value.ownBlock _ = some kq → wlj1.heap.size ≤ kq from fr802) kq (h.symm.trans e)
                  · have := Option.some.inj (h.symm.trans e); omega
                refine F.q (v := .agg #[.int .i64 m, .slice A803 (((0 + k2) + 1) + (n - k2)) cap804]) (hr := (r_build rfl (vs := [(0, .int .i64 m), (1, .slice A803 (((0 + k2) + 1) + (n - k2)) cap804)]) (by kernel_rfl) (by kernel_rfl))) (h := ?_)
                refine W.ss (v := .agg #[.int .i64 m, .slice A803 (((0 + k2) + 1) + (n - k2)) cap804]) (j := 0) (news := [.int .i64 m, .slice A803 (((0 + k2) + 1) + (n - k2)) cap804]) (cs' := #[.int .i64 m, .slice A803 (((0 + k2) + 1) + (n - k2)) cap804]) s809 rfl (by kernel_rfl) rfl rfl (by kernel_rfl) (by kernel_rfl) x780 (by kernel_rfl) (by kernel_rfl) (by simp) (by kernel_rfl) (by kernel_rfl) (.inr (Nat.le_trans (s692).size (Nat.le_of_eq hb778))) (fun w816 g817 x818 s819 => ?_)
                have x664 := (g817.block _ (blk_lt x664) (fun e9 => ne786 (Option.some.inj e9))).trans x664
                have ho820 := own_grown ho806 g817 (fun j e1 e2 => by cases e2; exact nb814 e1.symm)
                refine F.endF [(2, .pointer (some ⟨b2, 0, none⟩)), (3, .pointer (some ⟨b9, 0, none⟩)), (4, .pointer (some ⟨b17, 0, none⟩)), (5, .bool false), (6, .int .i64 ((k2 : Nat) : Int)), (7, .pointer (some ⟨b776, 0, none⟩))] (fun U821 => ?_)
                have x6 := SG.blk s819 x6 (Option.some_ne_none _)
                have x13 := SG.blk s819 x13 (Option.some_ne_none _)
                have x21 := SG.blk s819 x21 (Option.some_ne_none _)
                have c822 := (SG.belowR c50 s819 (fun kq e => by cases e))
                exact h10 0 _ _ ⟨A803, (((0 + k2) + 1) + (n - k2)), cap804, b776, (fun iU9 => lk [(2, .pointer (some ⟨b2, 0, none⟩)), (3, .pointer (some ⟨b9, 0, none⟩)), (4, .pointer (some ⟨b17, 0, none⟩)), (5, .bool false), (6, .int .i64 ((k2 : Nat) : Int)), (7, .pointer (some ⟨b776, 0, none⟩))] iU9 (U821 iU9)), (by kernel_rfl), x6, x13, x21, x818, lo782, ho820, by omega, nb810, nb811, nb812, nb814, ne783, ne784, ne785, c822⟩
            · refine W.sn (fun b => .pointer (some ⟨b, 0, none⟩)) #[.int .i64 0, .slice none 0 0] 29 s675 rfl (by kernel_rfl) rfl (fun _ => by kernel_rfl) (fun b823 w824 hb825 k826 x827 s828 => ?_)
              refine F.nx ?_
              have lo829 : w.heap.size ≤ b823 := Nat.le_trans ((SG.belowR c50 s675 (fun kq e => by cases e))).size (Nat.le_of_eq hb825)
              have ne830 : b2 ≠ b823 := Nat.ne_of_lt (Nat.lt_of_lt_of_eq (Nat.lt_of_lt_of_le (blk_lt x6) (s675).size) hb825)
              have ne831 : b9 ≠ b823 := Nat.ne_of_lt (Nat.lt_of_lt_of_eq (Nat.lt_of_lt_of_le (blk_lt x13) (s675).size) hb825)
              have ne832 : b17 ≠ b823 := Nat.ne_of_lt (Nat.lt_of_lt_of_eq (Nat.lt_of_lt_of_le (blk_lt x21) (s675).size) hb825)
              have ne833 : b660 ≠ b823 := Nat.ne_of_lt (Nat.lt_of_lt_of_eq (blk_lt x664) hb825)
              have ne834 : b670 ≠ b823 := Nat.ne_of_lt (Nat.lt_of_lt_of_eq (blk_lt x674) hb825)
              have x664 := (k826.block _ (blk_lt x664)).trans x664
              have x674 := (k826.block _ (blk_lt x674)).trans x674
              have ho835 := own_empty (base := w.heap.size) (size := 4) x674 lo676
              replace ho835 : World.ownsRow _ _ _ _ _ _ (pipesV []) := ho835
              have nb836 : Nb b2 (.slice (some ⟨b670, 0, none⟩) 0 0) := nb_new ne677
              have nb837 : Nb b9 (.slice (some ⟨b670, 0, none⟩) 0 0) := nb_new ne678
              have nb838 : Nb b17 (.slice (some ⟨b670, 0, none⟩) 0 0) := nb_new ne679
              have nb839 : Nb b660 (.slice (some ⟨b670, 0, none⟩) 0 0) := nb_new ne680
              have nb840 : Nb b823 (.slice (some ⟨b670, 0, none⟩) 0 0) := nb_new (Ne.symm ne834)
              replace ho835 : World.ownsRow _ _ _ _ _ _ (pipesV []) := ho835
              refine W.sapR (e := 50) (size := 4) (base := w.heap.size) (v := .slice (some ⟨b670, 0, none⟩) 0 0) (A := A) (m := k2) (c := c) s828 rfl rfl rfl rfl (by kernel_rfl) (by kernel_rfl) (by kernel_rfl) ho835 (Rd.toP (Rd.kept ha (SG.belowR c50 s828 (fun kq e => by cases e))) (by omega)) (Fm.to hf (by have := (hf).le; omega)) (pipes_one _) (by omega) (by have := ((SG.belowR c50 s828 (fun kq e => by cases e))).size; omega) (.inr (fun kq e => by have := (s665).size; have := hb672; have e' := Option.some.inj e; simp at e'; omega)) (fun A841 cap842 w843 ho844 hg845 hat846 s847 => ?_)
              refine F.nx ?_
              have nb848 : Nb b2 (.slice A841 (0 + k2) cap842) := nb_app2 nb836 (Nat.lt_of_lt_of_le (blk_lt x6) (s828).size) hat846
              have nb849 : Nb b9 (.slice A841 (0 + k2) cap842) := nb_app2 nb837 (Nat.lt_of_lt_of_le (blk_lt x13) (s828).size) hat846
              have nb850 : Nb b17 (.slice A841 (0 + k2) cap842) := nb_app2 nb838 (Nat.lt_of_lt_of_le (blk_lt x21) (s828).size) hat846
              have nb851 : Nb b660 (.slice A841 (0 + k2) cap842) := nb_app2 nb839 (blk_lt x664) hat846
              have x664 := (hg845.block _ (blk_lt x664) nb839).trans x664
              have nb852 : Nb b823 (.slice A841 (0 + k2) cap842) := nb_app2 nb840 (blk_lt x827) hat846
              have x827 := (hg845.block _ (blk_lt x827) nb840).trans x827
              have ho844 := own_joinP ho844
              have fr853 : ∀ kq, (.slice A841 (0 + k2) cap842 : Value).ownBlock = some kq → wlj1.heap.size ≤ kq := fun kq e => by
                have hs := (s828).size
                rcases hat846 with h | h
                · exact (show ∀ kq, Value.ownBlock _ = some kq → wlj1.heap.size ≤ kq from (fun kq e => by have := (s665).size; have := hb672; have e' := Option.some.inj e; simp at e'; omega)) kq (h.symm.trans e)
                · have := Option.some.inj (h.symm.trans e); omega
              refine W.sap (e := 50) (size := 4) (base := w.heap.size) (m := 1) (v := .slice A841 (0 + k2) cap842) (c := 1) s847 rfl rfl rfl rfl (by kernel_rfl) (by kernel_rfl) (by kernel_rfl) ho844 x664 (by kernel_rfl) (by kernel_rfl) (by omega) (by omega) (by have := ((SG.belowR c50 s847 (fun kq e => by cases e))).size; omega) (.inr fr853) (fun g854 cap855 w856 ho857 hg858 hat859 hlt860 s861 => ?_)
              refine F.nx ?_
              have nb862 : Nb b2 (.slice (some ⟨g854, 0, none⟩) ((0 + k2) + 1) cap855) := nb_app nb848 (Nat.lt_of_lt_of_le (blk_lt x6) (s847).size) hat859
              have nb863 : Nb b9 (.slice (some ⟨g854, 0, none⟩) ((0 + k2) + 1) cap855) := nb_app nb849 (Nat.lt_of_lt_of_le (blk_lt x13) (s847).size) hat859
              have nb864 : Nb b17 (.slice (some ⟨g854, 0, none⟩) ((0 + k2) + 1) cap855) := nb_app nb850 (Nat.lt_of_lt_of_le (blk_lt x21) (s847).size) hat859
              have nb865 : Nb b660 (.slice (some ⟨g854, 0, none⟩) ((0 + k2) + 1) cap855) := nb_app nb851 (blk_lt x664) hat859
              have x664 := (hg858.block _ (blk_lt x664) nb851).trans x664
              have nb866 : Nb b823 (.slice (some ⟨g854, 0, none⟩) ((0 + k2) + 1) cap855) := nb_app nb852 (blk_lt x827) hat859
              have x827 := (hg858.block _ (blk_lt x827) nb852).trans x827
              have ho857 := own_snocP (x := x) ho857
              have fr867 : ∀ kq, (.slice (some ⟨g854, 0, none⟩) ((0 + k2) + 1) cap855 : Value).ownBlock = some kq → wlj1.heap.size ≤ kq := fun kq e => by
                have hs := (s847).size
                have e' : g854 = kq := by simpa [Value.ownBlock] using e
                rcases hat859 with h | h
                · exact (show ∀ kq, Value.ownBlock _ = some kq → wlj1.heap.size ≤ kq from fr853) kq (by rw [← e']; exact h)
                · omega
              refine W.sapR (e := 50) (size := 4) (base := w.heap.size) (v := .slice (some ⟨g854, 0, none⟩) ((0 + k2) + 1) cap855) (A := (sFrom A c k2 4)) (m := (n - k2)) (c := (c - k2)) s861 rfl rfl rfl rfl (by kernel_rfl) (by kernel_rfl) (by kernel_rfl) ho857 (Rd.fromP (Rd.kept ha (SG.belowR c50 s861 (fun kq e => by cases e))) (by omega) (hf).le) (Fm.from (size := 4) hf (by omega)) (pipes_one _) (by omega) (by have := ((SG.belowR c50 s861 (fun kq e => by cases e))).size; omega) (.inr fr867) (fun A868 cap869 w870 ho871 hg872 hat873 s874 => ?_)
              refine F.nx ?_
              have nb875 : Nb b2 (.slice A868 (((0 + k2) + 1) + (n - k2)) cap869) := nb_app2 nb862 (Nat.lt_of_lt_of_le (blk_lt x6) (s861).size) hat873
              have nb876 : Nb b9 (.slice A868 (((0 + k2) + 1) + (n - k2)) cap869) := nb_app2 nb863 (Nat.lt_of_lt_of_le (blk_lt x13) (s861).size) hat873
              have nb877 : Nb b17 (.slice A868 (((0 + k2) + 1) + (n - k2)) cap869) := nb_app2 nb864 (Nat.lt_of_lt_of_le (blk_lt x21) (s861).size) hat873
              have nb878 : Nb b660 (.slice A868 (((0 + k2) + 1) + (n - k2)) cap869) := nb_app2 nb865 (blk_lt x664) hat873
              have x664 := (hg872.block _ (blk_lt x664) nb865).trans x664
              have nb879 : Nb b823 (.slice A868 (((0 + k2) + 1) + (n - k2)) cap869) := nb_app2 nb866 (blk_lt x827) hat873
              have x827 := (hg872.block _ (blk_lt x827) nb866).trans x827
              have ho871 := own_joinP ho871
              have fr880 : ∀ kq, (.slice A868 (((0 + k2) + 1) + (n - k2)) cap869 : Value).ownBlock = some kq → wlj1.heap.size ≤ kq := fun kq e => by
                have hs := (s861).size
                rcases hat873 with h | h
                · exact (show ∀ kq, Value.ownBlock _ = some kq → wlj1.heap.size ≤ kq from fr867) kq (h.symm.trans e)
                · have := Option.some.inj (h.symm.trans e); omega
              refine F.q (v := .agg #[.int .i64 m, .slice A868 (((0 + k2) + 1) + (n - k2)) cap869]) (hr := (r_build rfl (vs := [(0, .int .i64 m), (1, .slice A868 (((0 + k2) + 1) + (n - k2)) cap869)]) (by kernel_rfl) (by kernel_rfl))) (h := ?_)
              refine W.ss (v := .agg #[.int .i64 m, .slice A868 (((0 + k2) + 1) + (n - k2)) cap869]) (j := 0) (news := [.int .i64 m, .slice A868 (((0 + k2) + 1) + (n - k2)) cap869]) (cs' := #[.int .i64 m, .slice A868 (((0 + k2) + 1) + (n - k2)) cap869]) s874 rfl (by kernel_rfl) rfl rfl (by kernel_rfl) (by kernel_rfl) x827 (by kernel_rfl) (by kernel_rfl) (by simp) (by kernel_rfl) (by kernel_rfl) (.inr (Nat.le_trans (s675).size (Nat.le_of_eq hb825))) (fun w881 g882 x883 s884 => ?_)
              have x664 := (g882.block _ (blk_lt x664) (fun e9 => ne833 (Option.some.inj e9))).trans x664
              have ho885 := own_grown ho871 g882 (fun j e1 e2 => by cases e2; exact nb879 e1.symm)
              refine F.endF [(2, .pointer (some ⟨b2, 0, none⟩)), (3, .pointer (some ⟨b9, 0, none⟩)), (4, .pointer (some ⟨b17, 0, none⟩)), (5, .bool false), (6, .int .i64 ((k2 : Nat) : Int)), (7, .pointer (some ⟨b823, 0, none⟩))] (fun U886 => ?_)
              have x6 := SG.blk s884 x6 (Option.some_ne_none _)
              have x13 := SG.blk s884 x13 (Option.some_ne_none _)
              have x21 := SG.blk s884 x21 (Option.some_ne_none _)
              have c887 := (SG.belowR c50 s884 (fun kq e => by cases e))
              exact h10 0 _ _ ⟨A868, (((0 + k2) + 1) + (n - k2)), cap869, b823, (fun iU9 => lk [(2, .pointer (some ⟨b2, 0, none⟩)), (3, .pointer (some ⟨b9, 0, none⟩)), (4, .pointer (some ⟨b17, 0, none⟩)), (5, .bool false), (6, .int .i64 ((k2 : Nat) : Int)), (7, .pointer (some ⟨b823, 0, none⟩))] iU9 (U886 iU9)), (by kernel_rfl), x6, x13, x21, x883, lo829, ho885, by omega, nb875, nb876, nb877, nb879, ne830, ne831, ne832, c887⟩
          · refine W.sn (fun b => .pointer (some ⟨b, 0, none⟩)) #[.int .i64 0, .slice none 0 0] 29 s665 rfl (by kernel_rfl) rfl (fun _ => by kernel_rfl) (fun b888 w889 hb890 k891 x892 s893 => ?_)
            refine F.nx ?_
            have lo894 : w.heap.size ≤ b888 := Nat.le_trans ((SG.belowR c50 s665 (fun kq e => by cases e))).size (Nat.le_of_eq hb890)
            have ne895 : b2 ≠ b888 := Nat.ne_of_lt (Nat.lt_of_lt_of_eq (Nat.lt_of_lt_of_le (blk_lt x6) (s665).size) hb890)
            have ne896 : b9 ≠ b888 := Nat.ne_of_lt (Nat.lt_of_lt_of_eq (Nat.lt_of_lt_of_le (blk_lt x13) (s665).size) hb890)
            have ne897 : b17 ≠ b888 := Nat.ne_of_lt (Nat.lt_of_lt_of_eq (Nat.lt_of_lt_of_le (blk_lt x21) (s665).size) hb890)
            have ne898 : b660 ≠ b888 := Nat.ne_of_lt (Nat.lt_of_lt_of_eq (blk_lt x664) hb890)
            have x664 := (k891.block _ (blk_lt x664)).trans x664
            refine W.sn (fun b => .slice (some ⟨b, 0, none⟩) 0 0) #[] 50 s893 rfl (by kernel_rfl) rfl (fun _ => by kernel_rfl) (fun b899 w900 hb901 k902 x903 s904 => ?_)
            refine F.nx ?_
            have lo905 : w.heap.size ≤ b899 := Nat.le_trans ((SG.belowR c50 s893 (fun kq e => by cases e))).size (Nat.le_of_eq hb901)
            have ne906 : b2 ≠ b899 := Nat.ne_of_lt (Nat.lt_of_lt_of_eq (Nat.lt_of_lt_of_le (blk_lt x6) (s893).size) hb901)
            have ne907 : b9 ≠ b899 := Nat.ne_of_lt (Nat.lt_of_lt_of_eq (Nat.lt_of_lt_of_le (blk_lt x13) (s893).size) hb901)
            have ne908 : b17 ≠ b899 := Nat.ne_of_lt (Nat.lt_of_lt_of_eq (Nat.lt_of_lt_of_le (blk_lt x21) (s893).size) hb901)
            have ne909 : b660 ≠ b899 := Nat.ne_of_lt (Nat.lt_of_lt_of_eq (blk_lt x664) hb901)
            have ne910 : b888 ≠ b899 := Nat.ne_of_lt (Nat.lt_of_lt_of_eq (blk_lt x892) hb901)
            have x664 := (k902.block _ (blk_lt x664)).trans x664
            have x892 := (k902.block _ (blk_lt x892)).trans x892
            have ho911 := own_empty (base := w.heap.size) (size := 4) x903 lo905
            replace ho911 : World.ownsRow _ _ _ _ _ _ (pipesV []) := ho911
            have nb912 : Nb b2 (.slice (some ⟨b899, 0, none⟩) 0 0) := nb_new ne906
            have nb913 : Nb b9 (.slice (some ⟨b899, 0, none⟩) 0 0) := nb_new ne907
            have nb914 : Nb b17 (.slice (some ⟨b899, 0, none⟩) 0 0) := nb_new ne908
            have nb915 : Nb b660 (.slice (some ⟨b899, 0, none⟩) 0 0) := nb_new ne909
            have nb916 : Nb b888 (.slice (some ⟨b899, 0, none⟩) 0 0) := nb_new ne910
            replace ho911 : World.ownsRow _ _ _ _ _ _ (pipesV []) := ho911
            refine W.sapR (e := 50) (size := 4) (base := w.heap.size) (v := .slice (some ⟨b899, 0, none⟩) 0 0) (A := A) (m := k2) (c := c) s904 rfl rfl rfl rfl (by kernel_rfl) (by kernel_rfl) (by kernel_rfl) ho911 (Rd.toP (Rd.kept ha (SG.belowR c50 s904 (fun kq e => by cases e))) (by omega)) (Fm.to hf (by have := (hf).le; omega)) (pipes_one _) (by omega) (by have := ((SG.belowR c50 s904 (fun kq e => by cases e))).size; omega) (.inr (fun kq e => by have := (s893).size; have := hb901; have e' := Option.some.inj e; simp at e'; omega)) (fun A917 cap918 w919 ho920 hg921 hat922 s923 => ?_)
            refine F.nx ?_
            have nb924 : Nb b2 (.slice A917 (0 + k2) cap918) := nb_app2 nb912 (Nat.lt_of_lt_of_le (blk_lt x6) (s904).size) hat922
            have nb925 : Nb b9 (.slice A917 (0 + k2) cap918) := nb_app2 nb913 (Nat.lt_of_lt_of_le (blk_lt x13) (s904).size) hat922
            have nb926 : Nb b17 (.slice A917 (0 + k2) cap918) := nb_app2 nb914 (Nat.lt_of_lt_of_le (blk_lt x21) (s904).size) hat922
            have nb927 : Nb b660 (.slice A917 (0 + k2) cap918) := nb_app2 nb915 (blk_lt x664) hat922
            have x664 := (hg921.block _ (blk_lt x664) nb915).trans x664
            have nb928 : Nb b888 (.slice A917 (0 + k2) cap918) := nb_app2 nb916 (blk_lt x892) hat922
            have x892 := (hg921.block _ (blk_lt x892) nb916).trans x892
            have ho920 := own_joinP ho920
            have fr929 : ∀ kq, (.slice A917 (0 + k2) cap918 : Value).ownBlock = some kq → wlj1.heap.size ≤ kq := fun kq e => by
              have hs := (s904).size
              rcases hat922 with h | h
              · exact (show ∀ kq, Value.ownBlock _ = some kq → wlj1.heap.size ≤ kq from (fun kq e => by have := (s893).size; have := hb901; have e' := Option.some.inj e; simp at e'; omega)) kq (h.symm.trans e)
              · have := Option.some.inj (h.symm.trans e); omega
            refine W.sap (e := 50) (size := 4) (base := w.heap.size) (m := 1) (v := .slice A917 (0 + k2) cap918) (c := 1) s923 rfl rfl rfl rfl (by kernel_rfl) (by kernel_rfl) (by kernel_rfl) ho920 x664 (by kernel_rfl) (by kernel_rfl) (by omega) (by omega) (by have := ((SG.belowR c50 s923 (fun kq e => by cases e))).size; omega) (.inr fr929) (fun g930 cap931 w932 ho933 hg934 hat935 hlt936 s937 => ?_)
            refine F.nx ?_
            have nb938 : Nb b2 (.slice (some ⟨g930, 0, none⟩) ((0 + k2) + 1) cap931) := nb_app nb924 (Nat.lt_of_lt_of_le (blk_lt x6) (s923).size) hat935
            have nb939 : Nb b9 (.slice (some ⟨g930, 0, none⟩) ((0 + k2) + 1) cap931) := nb_app nb925 (Nat.lt_of_lt_of_le (blk_lt x13) (s923).size) hat935
            have nb940 : Nb b17 (.slice (some ⟨g930, 0, none⟩) ((0 + k2) + 1) cap931) := nb_app nb926 (Nat.lt_of_lt_of_le (blk_lt x21) (s923).size) hat935
            have nb941 : Nb b660 (.slice (some ⟨g930, 0, none⟩) ((0 + k2) + 1) cap931) := nb_app nb927 (blk_lt x664) hat935
            have x664 := (hg934.block _ (blk_lt x664) nb927).trans x664
            have nb942 : Nb b888 (.slice (some ⟨g930, 0, none⟩) ((0 + k2) + 1) cap931) := nb_app nb928 (blk_lt x892) hat935
            have x892 := (hg934.block _ (blk_lt x892) nb928).trans x892
            have ho933 := own_snocP (x := x) ho933
            have fr943 : ∀ kq, (.slice (some ⟨g930, 0, none⟩) ((0 + k2) + 1) cap931 : Value).ownBlock = some kq → wlj1.heap.size ≤ kq := fun kq e => by
              have hs := (s923).size
              have e' : g930 = kq := by simpa [Value.ownBlock] using e
              rcases hat935 with h | h
              · exact (show ∀ kq, Value.ownBlock _ = some kq → wlj1.heap.size ≤ kq from fr929) kq (by rw [← e']; exact h)
              · omega
            refine W.sapR (e := 50) (size := 4) (base := w.heap.size) (v := .slice (some ⟨g930, 0, none⟩) ((0 + k2) + 1) cap931) (A := (sFrom A c k2 4)) (m := (n - k2)) (c := (c - k2)) s937 rfl rfl rfl rfl (by kernel_rfl) (by kernel_rfl) (by kernel_rfl) ho933 (Rd.fromP (Rd.kept ha (SG.belowR c50 s937 (fun kq e => by cases e))) (by omega) (hf).le) (Fm.from (size := 4) hf (by omega)) (pipes_one _) (by omega) (by have := ((SG.belowR c50 s937 (fun kq e => by cases e))).size; omega) (.inr fr943) (fun A944 cap945 w946 ho947 hg948 hat949 s950 => ?_)
            refine F.nx ?_
            have nb951 : Nb b2 (.slice A944 (((0 + k2) + 1) + (n - k2)) cap945) := nb_app2 nb938 (Nat.lt_of_lt_of_le (blk_lt x6) (s937).size) hat949
            have nb952 : Nb b9 (.slice A944 (((0 + k2) + 1) + (n - k2)) cap945) := nb_app2 nb939 (Nat.lt_of_lt_of_le (blk_lt x13) (s937).size) hat949
            have nb953 : Nb b17 (.slice A944 (((0 + k2) + 1) + (n - k2)) cap945) := nb_app2 nb940 (Nat.lt_of_lt_of_le (blk_lt x21) (s937).size) hat949
            have nb954 : Nb b660 (.slice A944 (((0 + k2) + 1) + (n - k2)) cap945) := nb_app2 nb941 (blk_lt x664) hat949
            have x664 := (hg948.block _ (blk_lt x664) nb941).trans x664
            have nb955 : Nb b888 (.slice A944 (((0 + k2) + 1) + (n - k2)) cap945) := nb_app2 nb942 (blk_lt x892) hat949
            have x892 := (hg948.block _ (blk_lt x892) nb942).trans x892
            have ho947 := own_joinP ho947
            have fr956 : ∀ kq, (.slice A944 (((0 + k2) + 1) + (n - k2)) cap945 : Value).ownBlock = some kq → wlj1.heap.size ≤ kq := fun kq e => by
              have hs := (s937).size
              rcases hat949 with h | h
              · exact (show ∀ kq, Value.ownBlock _ = some kq → wlj1.heap.size ≤ kq from fr943) kq (h.symm.trans e)
              · have := Option.some.inj (h.symm.trans e); omega
            refine F.q (v := .agg #[.int .i64 m, .slice A944 (((0 + k2) + 1) + (n - k2)) cap945]) (hr := (r_build rfl (vs := [(0, .int .i64 m), (1, .slice A944 (((0 + k2) + 1) + (n - k2)) cap945)]) (by kernel_rfl) (by kernel_rfl))) (h := ?_)
            refine W.ss (v := .agg #[.int .i64 m, .slice A944 (((0 + k2) + 1) + (n - k2)) cap945]) (j := 0) (news := [.int .i64 m, .slice A944 (((0 + k2) + 1) + (n - k2)) cap945]) (cs' := #[.int .i64 m, .slice A944 (((0 + k2) + 1) + (n - k2)) cap945]) s950 rfl (by kernel_rfl) rfl rfl (by kernel_rfl) (by kernel_rfl) x892 (by kernel_rfl) (by kernel_rfl) (by simp) (by kernel_rfl) (by kernel_rfl) (.inr (Nat.le_trans (s665).size (Nat.le_of_eq hb890))) (fun w957 g958 x959 s960 => ?_)
            have x664 := (g958.block _ (blk_lt x664) (fun e9 => ne898 (Option.some.inj e9))).trans x664
            have ho961 := own_grown ho947 g958 (fun j e1 e2 => by cases e2; exact nb955 e1.symm)
            refine F.endF [(2, .pointer (some ⟨b2, 0, none⟩)), (3, .pointer (some ⟨b9, 0, none⟩)), (4, .pointer (some ⟨b17, 0, none⟩)), (5, .bool false), (6, .int .i64 ((k2 : Nat) : Int)), (7, .pointer (some ⟨b888, 0, none⟩))] (fun U962 => ?_)
            have x6 := SG.blk s960 x6 (Option.some_ne_none _)
            have x13 := SG.blk s960 x13 (Option.some_ne_none _)
            have x21 := SG.blk s960 x21 (Option.some_ne_none _)
            have c963 := (SG.belowR c50 s960 (fun kq e => by cases e))
            exact h10 0 _ _ ⟨A944, (((0 + k2) + 1) + (n - k2)), cap945, b888, (fun iU9 => lk [(2, .pointer (some ⟨b2, 0, none⟩)), (3, .pointer (some ⟨b9, 0, none⟩)), (4, .pointer (some ⟨b17, 0, none⟩)), (5, .bool false), (6, .int .i64 ((k2 : Nat) : Int)), (7, .pointer (some ⟨b888, 0, none⟩))] iU9 (U962 iU9)), (by kernel_rfl), x6, x13, x21, x959, lo894, ho961, by omega, nb951, nb952, nb953, nb955, ne895, ne896, ne897, c963⟩
        · refine W.sn (fun b => .pointer (some ⟨b, 0, none⟩)) #[.int .i64 0, .slice none 0 0] 29 s80 rfl (by kernel_rfl) rfl (fun _ => by kernel_rfl) (fun b964 w965 hb966 k967 x968 s969 => ?_)
          refine F.nx ?_
          have lo970 : w.heap.size ≤ b964 := Nat.le_trans ((SG.belowR c50 s80 (fun kq e => by cases e))).size (Nat.le_of_eq hb966)
          have ne971 : b2 ≠ b964 := Nat.ne_of_lt (Nat.lt_of_lt_of_eq (Nat.lt_of_lt_of_le (blk_lt x6) (s80).size) hb966)
          have ne972 : b9 ≠ b964 := Nat.ne_of_lt (Nat.lt_of_lt_of_eq (Nat.lt_of_lt_of_le (blk_lt x13) (s80).size) hb966)
          have ne973 : b17 ≠ b964 := Nat.ne_of_lt (Nat.lt_of_lt_of_eq (Nat.lt_of_lt_of_le (blk_lt x21) (s80).size) hb966)
          refine W.sbr ?_ ?_
          · refine W.sn (fun b => .slice (some ⟨b, 0, none⟩) 0 0) #[] 50 s969 rfl (by kernel_rfl) rfl (fun _ => by kernel_rfl) (fun b974 w975 hb976 k977 x978 s979 => ?_)
            refine F.nx ?_
            have lo980 : w.heap.size ≤ b974 := Nat.le_trans ((SG.belowR c50 s969 (fun kq e => by cases e))).size (Nat.le_of_eq hb976)
            have ne981 : b2 ≠ b974 := Nat.ne_of_lt (Nat.lt_of_lt_of_eq (Nat.lt_of_lt_of_le (blk_lt x6) (s969).size) hb976)
            have ne982 : b9 ≠ b974 := Nat.ne_of_lt (Nat.lt_of_lt_of_eq (Nat.lt_of_lt_of_le (blk_lt x13) (s969).size) hb976)
            have ne983 : b17 ≠ b974 := Nat.ne_of_lt (Nat.lt_of_lt_of_eq (Nat.lt_of_lt_of_le (blk_lt x21) (s969).size) hb976)
            have ne984 : b964 ≠ b974 := Nat.ne_of_lt (Nat.lt_of_lt_of_eq (blk_lt x968) hb976)
            have x968 := (k977.block _ (blk_lt x968)).trans x968
            refine W.sbr ?_ ?_
            · have ho985 := own_empty (base := w.heap.size) (size := 4) x978 lo980
              replace ho985 : World.ownsRow _ _ _ _ _ _ (pipesV []) := ho985
              have nb986 : Nb b2 (.slice (some ⟨b974, 0, none⟩) 0 0) := nb_new ne981
              have nb987 : Nb b9 (.slice (some ⟨b974, 0, none⟩) 0 0) := nb_new ne982
              have nb988 : Nb b17 (.slice (some ⟨b974, 0, none⟩) 0 0) := nb_new ne983
              have nb989 : Nb b964 (.slice (some ⟨b974, 0, none⟩) 0 0) := nb_new ne984
              replace ho985 : World.ownsRow _ _ _ _ _ _ (pipesV []) := ho985
              refine W.sapR (e := 50) (size := 4) (base := w.heap.size) (v := .slice (some ⟨b974, 0, none⟩) 0 0) (A := A) (m := k2) (c := c) s979 rfl rfl rfl rfl (by kernel_rfl) (by kernel_rfl) (by kernel_rfl) ho985 (Rd.toP (Rd.kept ha (SG.belowR c50 s979 (fun kq e => by cases e))) (by omega)) (Fm.to hf (by have := (hf).le; omega)) (pipes_one _) (by omega) (by have := ((SG.belowR c50 s979 (fun kq e => by cases e))).size; omega) (.inr (fun kq e => by have := (s969).size; have := hb976; have e' := Option.some.inj e; simp at e'; omega)) (fun A990 cap991 w992 ho993 hg994 hat995 s996 => ?_)
              refine F.nx ?_
              have nb997 : Nb b2 (.slice A990 (0 + k2) cap991) := nb_app2 nb986 (Nat.lt_of_lt_of_le (blk_lt x6) (s979).size) hat995
              have nb998 : Nb b9 (.slice A990 (0 + k2) cap991) := nb_app2 nb987 (Nat.lt_of_lt_of_le (blk_lt x13) (s979).size) hat995
              have nb999 : Nb b17 (.slice A990 (0 + k2) cap991) := nb_app2 nb988 (Nat.lt_of_lt_of_le (blk_lt x21) (s979).size) hat995
              have nb1000 : Nb b964 (.slice A990 (0 + k2) cap991) := nb_app2 nb989 (blk_lt x968) hat995
              have x968 := (hg994.block _ (blk_lt x968) nb989).trans x968
              have ho993 := own_joinP ho993
              have fr1001 : ∀ kq, (.slice A990 (0 + k2) cap991 : Value).ownBlock = some kq → wlj1.heap.size ≤ kq := fun kq e => by
                have hs := (s979).size
                rcases hat995 with h | h
                · exact (show ∀ kq, Value.ownBlock _ = some kq → wlj1.heap.size ≤ kq from (fun kq e => by have := (s969).size; have := hb976; have e' := Option.some.inj e; simp at e'; omega)) kq (h.symm.trans e)
                · have := Option.some.inj (h.symm.trans e); omega
              refine W.sn (fun b => .slice (some ⟨b, 0, none⟩) 1 1) #[.int .i64 x.id, .int .i64 x.fr, .int .i64 x.to, .int .i64 x.sz] 50 s996 rfl (by kernel_rfl) rfl (fun _ => by kernel_rfl) (fun b1002 w1003 hb1004 k1005 x1006 s1007 => ?_)
              refine F.nx ?_
              have lo1008 : w.heap.size ≤ b1002 := Nat.le_trans ((SG.belowR c50 s996 (fun kq e => by cases e))).size (Nat.le_of_eq hb1004)
              have ne1009 : b2 ≠ b1002 := Nat.ne_of_lt (Nat.lt_of_lt_of_eq (Nat.lt_of_lt_of_le (blk_lt x6) (s996).size) hb1004)
              have ne1010 : b9 ≠ b1002 := Nat.ne_of_lt (Nat.lt_of_lt_of_eq (Nat.lt_of_lt_of_le (blk_lt x13) (s996).size) hb1004)
              have ne1011 : b17 ≠ b1002 := Nat.ne_of_lt (Nat.lt_of_lt_of_eq (Nat.lt_of_lt_of_le (blk_lt x21) (s996).size) hb1004)
              have ne1012 : b964 ≠ b1002 := Nat.ne_of_lt (Nat.lt_of_lt_of_eq (blk_lt x968) hb1004)
              have nb1013 : Nb b1002 (.slice A990 (0 + k2) cap991) := nb_hi ho993 (Nat.le_of_eq hb1004)
              have x968 := (k1005.block _ (blk_lt x968)).trans x968
              have ho1014 := own_kept ho993 k1005
              refine W.sap (e := 50) (size := 4) (base := w.heap.size) (m := 1) (v := .slice A990 (0 + k2) cap991) (c := 1) s1007 rfl rfl rfl rfl (by kernel_rfl) (by kernel_rfl) (by kernel_rfl) ho1014 x1006 (by kernel_rfl) (by kernel_rfl) (by omega) (by omega) (by have := ((SG.belowR c50 s1007 (fun kq e => by cases e))).size; omega) (.inr fr1001) (fun g1015 cap1016 w1017 ho1018 hg1019 hat1020 hlt1021 s1022 => ?_)
              refine F.nx ?_
              have nb1023 : Nb b2 (.slice (some ⟨g1015, 0, none⟩) ((0 + k2) + 1) cap1016) := nb_app nb997 (Nat.lt_of_lt_of_le (blk_lt x6) (s1007).size) hat1020
              have nb1024 : Nb b9 (.slice (some ⟨g1015, 0, none⟩) ((0 + k2) + 1) cap1016) := nb_app nb998 (Nat.lt_of_lt_of_le (blk_lt x13) (s1007).size) hat1020
              have nb1025 : Nb b17 (.slice (some ⟨g1015, 0, none⟩) ((0 + k2) + 1) cap1016) := nb_app nb999 (Nat.lt_of_lt_of_le (blk_lt x21) (s1007).size) hat1020
              have nb1026 : Nb b964 (.slice (some ⟨g1015, 0, none⟩) ((0 + k2) + 1) cap1016) := nb_app nb1000 (blk_lt x968) hat1020
              have x968 := (hg1019.block _ (blk_lt x968) nb1000).trans x968
              have nb1027 : Nb b1002 (.slice (some ⟨g1015, 0, none⟩) ((0 + k2) + 1) cap1016) := nb_app nb1013 (blk_lt x1006) hat1020
              have x1006 := (hg1019.block _ (blk_lt x1006) nb1013).trans x1006
              have ho1018 := own_snocP (x := x) ho1018
              have fr1028 : ∀ kq, (.slice (some ⟨g1015, 0, none⟩) ((0 + k2) + 1) cap1016 : Value).ownBlock = some kq → wlj1.heap.size ≤ kq := fun kq e => by
                have hs := (s1007).size
                have e' : g1015 = kq := by simpa [Value.ownBlock] using e
                rcases hat1020 with h | h
                · exact (show ∀ kq, Value.ownBlock _ = some kq → wlj1.heap.size ≤ kq from fr1001) kq (by rw [← e']; exact h)
                · omega
              refine W.sapR (e := 50) (size := 4) (base := w.heap.size) (v := .slice (some ⟨g1015, 0, none⟩) ((0 + k2) + 1) cap1016) (A := (sFrom A c k2 4)) (m := (n - k2)) (c := (c - k2)) s1022 rfl rfl rfl rfl (by kernel_rfl) (by kernel_rfl) (by kernel_rfl) ho1018 (Rd.fromP (Rd.kept ha (SG.belowR c50 s1022 (fun kq e => by cases e))) (by omega) (hf).le) (Fm.from (size := 4) hf (by omega)) (pipes_one _) (by omega) (by have := ((SG.belowR c50 s1022 (fun kq e => by cases e))).size; omega) (.inr fr1028) (fun A1029 cap1030 w1031 ho1032 hg1033 hat1034 s1035 => ?_)
              refine F.nx ?_
              have nb1036 : Nb b2 (.slice A1029 (((0 + k2) + 1) + (n - k2)) cap1030) := nb_app2 nb1023 (Nat.lt_of_lt_of_le (blk_lt x6) (s1022).size) hat1034
              have nb1037 : Nb b9 (.slice A1029 (((0 + k2) + 1) + (n - k2)) cap1030) := nb_app2 nb1024 (Nat.lt_of_lt_of_le (blk_lt x13) (s1022).size) hat1034
              have nb1038 : Nb b17 (.slice A1029 (((0 + k2) + 1) + (n - k2)) cap1030) := nb_app2 nb1025 (Nat.lt_of_lt_of_le (blk_lt x21) (s1022).size) hat1034
              have nb1039 : Nb b964 (.slice A1029 (((0 + k2) + 1) + (n - k2)) cap1030) := nb_app2 nb1026 (blk_lt x968) hat1034
              have x968 := (hg1033.block _ (blk_lt x968) nb1026).trans x968
              have nb1040 : Nb b1002 (.slice A1029 (((0 + k2) + 1) + (n - k2)) cap1030) := nb_app2 nb1027 (blk_lt x1006) hat1034
              have x1006 := (hg1033.block _ (blk_lt x1006) nb1027).trans x1006
              have ho1032 := own_joinP ho1032
              have fr1041 : ∀ kq, (.slice A1029 (((0 + k2) + 1) + (n - k2)) cap1030 : Value).ownBlock = some kq → wlj1.heap.size ≤ kq := fun kq e => by
                have hs := (s1022).size
                rcases hat1034 with h | h
                · exact (show ∀ kq, Value.ownBlock _ = some kq → wlj1.heap.size ≤ kq from fr1028) kq (h.symm.trans e)
                · have := Option.some.inj (h.symm.trans e); omega
              refine F.q (v := .agg #[.int .i64 m, .slice A1029 (((0 + k2) + 1) + (n - k2)) cap1030]) (hr := (r_build rfl (vs := [(0, .int .i64 m), (1, .slice A1029 (((0 + k2) + 1) + (n - k2)) cap1030)]) (by kernel_rfl) (by kernel_rfl))) (h := ?_)
              refine W.ss (v := .agg #[.int .i64 m, .slice A1029 (((0 + k2) + 1) + (n - k2)) cap1030]) (j := 0) (news := [.int .i64 m, .slice A1029 (((0 + k2) + 1) + (n - k2)) cap1030]) (cs' := #[.int .i64 m, .slice A1029 (((0 + k2) + 1) + (n - k2)) cap1030]) s1035 rfl (by kernel_rfl) rfl rfl (by kernel_rfl) (by kernel_rfl) x968 (by kernel_rfl) (by kernel_rfl) (by simp) (by kernel_rfl) (by kernel_rfl) (.inr (Nat.le_trans (s80).size (Nat.le_of_eq hb966))) (fun w1042 g1043 x1044 s1045 => ?_)
              have x1006 := (g1043.block _ (blk_lt x1006) (fun e9 => ne1012 (Option.some.inj e9).symm)).trans x1006
              have ho1046 := own_grown ho1032 g1043 (fun j e1 e2 => by cases e2; exact nb1039 e1.symm)
              refine F.endF [(2, .pointer (some ⟨b2, 0, none⟩)), (3, .pointer (some ⟨b9, 0, none⟩)), (4, .pointer (some ⟨b17, 0, none⟩)), (5, .bool false), (6, .int .i64 ((k2 : Nat) : Int)), (7, .pointer (some ⟨b964, 0, none⟩))] (fun U1047 => ?_)
              have x6 := SG.blk s1045 x6 (Option.some_ne_none _)
              have x13 := SG.blk s1045 x13 (Option.some_ne_none _)
              have x21 := SG.blk s1045 x21 (Option.some_ne_none _)
              have c1048 := (SG.belowR c50 s1045 (fun kq e => by cases e))
              exact h10 0 _ _ ⟨A1029, (((0 + k2) + 1) + (n - k2)), cap1030, b964, (fun iU9 => lk [(2, .pointer (some ⟨b2, 0, none⟩)), (3, .pointer (some ⟨b9, 0, none⟩)), (4, .pointer (some ⟨b17, 0, none⟩)), (5, .bool false), (6, .int .i64 ((k2 : Nat) : Int)), (7, .pointer (some ⟨b964, 0, none⟩))] iU9 (U1047 iU9)), (by kernel_rfl), x6, x13, x21, x1044, lo970, ho1046, by omega, nb1036, nb1037, nb1038, nb1039, ne971, ne972, ne973, c1048⟩
            · refine W.sn (fun b => .slice (some ⟨b, 0, none⟩) 1 1) #[.int .i64 x.id, .int .i64 x.fr, .int .i64 x.to, .int .i64 x.sz] 50 s979 rfl (by kernel_rfl) rfl (fun _ => by kernel_rfl) (fun b1049 w1050 hb1051 k1052 x1053 s1054 => ?_)
              refine F.nx ?_
              have lo1055 : w.heap.size ≤ b1049 := Nat.le_trans ((SG.belowR c50 s979 (fun kq e => by cases e))).size (Nat.le_of_eq hb1051)
              have ne1056 : b2 ≠ b1049 := Nat.ne_of_lt (Nat.lt_of_lt_of_eq (Nat.lt_of_lt_of_le (blk_lt x6) (s979).size) hb1051)
              have ne1057 : b9 ≠ b1049 := Nat.ne_of_lt (Nat.lt_of_lt_of_eq (Nat.lt_of_lt_of_le (blk_lt x13) (s979).size) hb1051)
              have ne1058 : b17 ≠ b1049 := Nat.ne_of_lt (Nat.lt_of_lt_of_eq (Nat.lt_of_lt_of_le (blk_lt x21) (s979).size) hb1051)
              have ne1059 : b964 ≠ b1049 := Nat.ne_of_lt (Nat.lt_of_lt_of_eq (blk_lt x968) hb1051)
              have ne1060 : b974 ≠ b1049 := Nat.ne_of_lt (Nat.lt_of_lt_of_eq (blk_lt x978) hb1051)
              have x968 := (k1052.block _ (blk_lt x968)).trans x968
              have x978 := (k1052.block _ (blk_lt x978)).trans x978
              have ho1061 := own_empty (base := w.heap.size) (size := 4) x978 lo980
              replace ho1061 : World.ownsRow _ _ _ _ _ _ (pipesV []) := ho1061
              have nb1062 : Nb b2 (.slice (some ⟨b974, 0, none⟩) 0 0) := nb_new ne981
              have nb1063 : Nb b9 (.slice (some ⟨b974, 0, none⟩) 0 0) := nb_new ne982
              have nb1064 : Nb b17 (.slice (some ⟨b974, 0, none⟩) 0 0) := nb_new ne983
              have nb1065 : Nb b964 (.slice (some ⟨b974, 0, none⟩) 0 0) := nb_new ne984
              have nb1066 : Nb b1049 (.slice (some ⟨b974, 0, none⟩) 0 0) := nb_new (Ne.symm ne1060)
              replace ho1061 : World.ownsRow _ _ _ _ _ _ (pipesV []) := ho1061
              refine W.sapR (e := 50) (size := 4) (base := w.heap.size) (v := .slice (some ⟨b974, 0, none⟩) 0 0) (A := A) (m := k2) (c := c) s1054 rfl rfl rfl rfl (by kernel_rfl) (by kernel_rfl) (by kernel_rfl) ho1061 (Rd.toP (Rd.kept ha (SG.belowR c50 s1054 (fun kq e => by cases e))) (by omega)) (Fm.to hf (by have := (hf).le; omega)) (pipes_one _) (by omega) (by have := ((SG.belowR c50 s1054 (fun kq e => by cases e))).size; omega) (.inr (fun kq e => by have := (s969).size; have := hb976; have e' := Option.some.inj e; simp at e'; omega)) (fun A1067 cap1068 w1069 ho1070 hg1071 hat1072 s1073 => ?_)
              refine F.nx ?_
              have nb1074 : Nb b2 (.slice A1067 (0 + k2) cap1068) := nb_app2 nb1062 (Nat.lt_of_lt_of_le (blk_lt x6) (s1054).size) hat1072
              have nb1075 : Nb b9 (.slice A1067 (0 + k2) cap1068) := nb_app2 nb1063 (Nat.lt_of_lt_of_le (blk_lt x13) (s1054).size) hat1072
              have nb1076 : Nb b17 (.slice A1067 (0 + k2) cap1068) := nb_app2 nb1064 (Nat.lt_of_lt_of_le (blk_lt x21) (s1054).size) hat1072
              have nb1077 : Nb b964 (.slice A1067 (0 + k2) cap1068) := nb_app2 nb1065 (blk_lt x968) hat1072
              have x968 := (hg1071.block _ (blk_lt x968) nb1065).trans x968
              have nb1078 : Nb b1049 (.slice A1067 (0 + k2) cap1068) := nb_app2 nb1066 (blk_lt x1053) hat1072
              have x1053 := (hg1071.block _ (blk_lt x1053) nb1066).trans x1053
              have ho1070 := own_joinP ho1070
              have fr1079 : ∀ kq, (.slice A1067 (0 + k2) cap1068 : Value).ownBlock = some kq → wlj1.heap.size ≤ kq := fun kq e => by
                have hs := (s1054).size
                rcases hat1072 with h | h
                · exact (show ∀ kq, Value.ownBlock _ = some kq → wlj1.heap.size ≤ kq from (fun kq e => by have := (s969).size; have := hb976; have e' := Option.some.inj e; simp at e'; omega)) kq (h.symm.trans e)
                · have := Option.some.inj (h.symm.trans e); omega
              refine W.sap (e := 50) (size := 4) (base := w.heap.size) (m := 1) (v := .slice A1067 (0 + k2) cap1068) (c := 1) s1073 rfl rfl rfl rfl (by kernel_rfl) (by kernel_rfl) (by kernel_rfl) ho1070 x1053 (by kernel_rfl) (by kernel_rfl) (by omega) (by omega) (by have := ((SG.belowR c50 s1073 (fun kq e => by cases e))).size; omega) (.inr fr1079) (fun g1080 cap1081 w1082 ho1083 hg1084 hat1085 hlt1086 s1087 => ?_)
              refine F.nx ?_
              have nb1088 : Nb b2 (.slice (some ⟨g1080, 0, none⟩) ((0 + k2) + 1) cap1081) := nb_app nb1074 (Nat.lt_of_lt_of_le (blk_lt x6) (s1073).size) hat1085
              have nb1089 : Nb b9 (.slice (some ⟨g1080, 0, none⟩) ((0 + k2) + 1) cap1081) := nb_app nb1075 (Nat.lt_of_lt_of_le (blk_lt x13) (s1073).size) hat1085
              have nb1090 : Nb b17 (.slice (some ⟨g1080, 0, none⟩) ((0 + k2) + 1) cap1081) := nb_app nb1076 (Nat.lt_of_lt_of_le (blk_lt x21) (s1073).size) hat1085
              have nb1091 : Nb b964 (.slice (some ⟨g1080, 0, none⟩) ((0 + k2) + 1) cap1081) := nb_app nb1077 (blk_lt x968) hat1085
              have x968 := (hg1084.block _ (blk_lt x968) nb1077).trans x968
              have nb1092 : Nb b1049 (.slice (some ⟨g1080, 0, none⟩) ((0 + k2) + 1) cap1081) := nb_app nb1078 (blk_lt x1053) hat1085
              have x1053 := (hg1084.block _ (blk_lt x1053) nb1078).trans x1053
              have ho1083 := own_snocP (x := x) ho1083
              have fr1093 : ∀ kq, (.slice (some ⟨g1080, 0, none⟩) ((0 + k2) + 1) cap1081 : Value).ownBlock = some kq → wlj1.heap.size ≤ kq := fun kq e => by
                have hs := (s1073).size
                have e' : g1080 = kq := by simpa [Value.ownBlock] using e
                rcases hat1085 with h | h
                · exact (show ∀ kq, Value.ownBlock _ = some kq → wlj1.heap.size ≤ kq from fr1079) kq (by rw [← e']; exact h)
                · omega
              refine W.sapR (e := 50) (size := 4) (base := w.heap.size) (v := .slice (some ⟨g1080, 0, none⟩) ((0 + k2) + 1) cap1081) (A := (sFrom A c k2 4)) (m := (n - k2)) (c := (c - k2)) s1087 rfl rfl rfl rfl (by kernel_rfl) (by kernel_rfl) (by kernel_rfl) ho1083 (Rd.fromP (Rd.kept ha (SG.belowR c50 s1087 (fun kq e => by cases e))) (by omega) (hf).le) (Fm.from (size := 4) hf (by omega)) (pipes_one _) (by omega) (by have := ((SG.belowR c50 s1087 (fun kq e => by cases e))).size; omega) (.inr fr1093) (fun A1094 cap1095 w1096 ho1097 hg1098 hat1099 s1100 => ?_)
              refine F.nx ?_
              have nb1101 : Nb b2 (.slice A1094 (((0 + k2) + 1) + (n - k2)) cap1095) := nb_app2 nb1088 (Nat.lt_of_lt_of_le (blk_lt x6) (s1087).size) hat1099
              have nb1102 : Nb b9 (.slice A1094 (((0 + k2) + 1) + (n - k2)) cap1095) := nb_app2 nb1089 (Nat.lt_of_lt_of_le (blk_lt x13) (s1087).size) hat1099
              have nb1103 : Nb b17 (.slice A1094 (((0 + k2) + 1) + (n - k2)) cap1095) := nb_app2 nb1090 (Nat.lt_of_lt_of_le (blk_lt x21) (s1087).size) hat1099
              have nb1104 : Nb b964 (.slice A1094 (((0 + k2) + 1) + (n - k2)) cap1095) := nb_app2 nb1091 (blk_lt x968) hat1099
              have x968 := (hg1098.block _ (blk_lt x968) nb1091).trans x968
              have nb1105 : Nb b1049 (.slice A1094 (((0 + k2) + 1) + (n - k2)) cap1095) := nb_app2 nb1092 (blk_lt x1053) hat1099
              have x1053 := (hg1098.block _ (blk_lt x1053) nb1092).trans x1053
              have ho1097 := own_joinP ho1097
              have fr1106 : ∀ kq, (.slice A1094 (((0 + k2) + 1) + (n - k2)) cap1095 : Value).ownBlock = some kq → wlj1.heap.size ≤ kq := fun kq e => by
                have hs := (s1087).size
                rcases hat1099 with h | h
                · exact (show ∀ kq, Value.ownBlock _ = some kq → wlj1.heap.size ≤ kq from fr1093) kq (h.symm.trans e)
                · have := Option.some.inj (h.symm.trans e); omega
              refine F.q (v := .agg #[.int .i64 m, .slice A1094 (((0 + k2) + 1) + (n - k2)) cap1095]) (hr := (r_build rfl (vs := [(0, .int .i64 m), (1, .slice A1094 (((0 + k2) + 1) + (n - k2)) cap1095)]) (by kernel_rfl) (by kernel_rfl))) (h := ?_)
              refine W.ss (v := .agg #[.int .i64 m, .slice A1094 (((0 + k2) + 1) + (n - k2)) cap1095]) (j := 0) (news := [.int .i64 m, .slice A1094 (((0 + k2) + 1) + (n - k2)) cap1095]) (cs' := #[.int .i64 m, .slice A1094 (((0 + k2) + 1) + (n - k2)) cap1095]) s1100 rfl (by kernel_rfl) rfl rfl (by kernel_rfl) (by kernel_rfl) x968 (by kernel_rfl) (by kernel_rfl) (by simp) (by kernel_rfl) (by kernel_rfl) (.inr (Nat.le_trans (s80).size (Nat.le_of_eq hb966))) (fun w1107 g1108 x1109 s1110 => ?_)
              have x1053 := (g1108.block _ (blk_lt x1053) (fun e9 => ne1059 (Option.some.inj e9).symm)).trans x1053
              have ho1111 := own_grown ho1097 g1108 (fun j e1 e2 => by cases e2; exact nb1104 e1.symm)
              refine F.endF [(2, .pointer (some ⟨b2, 0, none⟩)), (3, .pointer (some ⟨b9, 0, none⟩)), (4, .pointer (some ⟨b17, 0, none⟩)), (5, .bool false), (6, .int .i64 ((k2 : Nat) : Int)), (7, .pointer (some ⟨b964, 0, none⟩))] (fun U1112 => ?_)
              have x6 := SG.blk s1110 x6 (Option.some_ne_none _)
              have x13 := SG.blk s1110 x13 (Option.some_ne_none _)
              have x21 := SG.blk s1110 x21 (Option.some_ne_none _)
              have c1113 := (SG.belowR c50 s1110 (fun kq e => by cases e))
              exact h10 0 _ _ ⟨A1094, (((0 + k2) + 1) + (n - k2)), cap1095, b964, (fun iU9 => lk [(2, .pointer (some ⟨b2, 0, none⟩)), (3, .pointer (some ⟨b9, 0, none⟩)), (4, .pointer (some ⟨b17, 0, none⟩)), (5, .bool false), (6, .int .i64 ((k2 : Nat) : Int)), (7, .pointer (some ⟨b964, 0, none⟩))] iU9 (U1112 iU9)), (by kernel_rfl), x6, x13, x21, x1109, lo970, ho1111, by omega, nb1101, nb1102, nb1103, nb1104, ne971, ne972, ne973, c1113⟩
          · refine W.sn (fun b => .slice (some ⟨b, 0, none⟩) 1 1) #[.int .i64 x.id, .int .i64 x.fr, .int .i64 x.to, .int .i64 x.sz] 50 s969 rfl (by kernel_rfl) rfl (fun _ => by kernel_rfl) (fun b1114 w1115 hb1116 k1117 x1118 s1119 => ?_)
            refine F.nx ?_
            have lo1120 : w.heap.size ≤ b1114 := Nat.le_trans ((SG.belowR c50 s969 (fun kq e => by cases e))).size (Nat.le_of_eq hb1116)
            have ne1121 : b2 ≠ b1114 := Nat.ne_of_lt (Nat.lt_of_lt_of_eq (Nat.lt_of_lt_of_le (blk_lt x6) (s969).size) hb1116)
            have ne1122 : b9 ≠ b1114 := Nat.ne_of_lt (Nat.lt_of_lt_of_eq (Nat.lt_of_lt_of_le (blk_lt x13) (s969).size) hb1116)
            have ne1123 : b17 ≠ b1114 := Nat.ne_of_lt (Nat.lt_of_lt_of_eq (Nat.lt_of_lt_of_le (blk_lt x21) (s969).size) hb1116)
            have ne1124 : b964 ≠ b1114 := Nat.ne_of_lt (Nat.lt_of_lt_of_eq (blk_lt x968) hb1116)
            have x968 := (k1117.block _ (blk_lt x968)).trans x968
            refine W.sn (fun b => .slice (some ⟨b, 0, none⟩) 0 0) #[] 50 s1119 rfl (by kernel_rfl) rfl (fun _ => by kernel_rfl) (fun b1125 w1126 hb1127 k1128 x1129 s1130 => ?_)
            refine F.nx ?_
            have lo1131 : w.heap.size ≤ b1125 := Nat.le_trans ((SG.belowR c50 s1119 (fun kq e => by cases e))).size (Nat.le_of_eq hb1127)
            have ne1132 : b2 ≠ b1125 := Nat.ne_of_lt (Nat.lt_of_lt_of_eq (Nat.lt_of_lt_of_le (blk_lt x6) (s1119).size) hb1127)
            have ne1133 : b9 ≠ b1125 := Nat.ne_of_lt (Nat.lt_of_lt_of_eq (Nat.lt_of_lt_of_le (blk_lt x13) (s1119).size) hb1127)
            have ne1134 : b17 ≠ b1125 := Nat.ne_of_lt (Nat.lt_of_lt_of_eq (Nat.lt_of_lt_of_le (blk_lt x21) (s1119).size) hb1127)
            have ne1135 : b964 ≠ b1125 := Nat.ne_of_lt (Nat.lt_of_lt_of_eq (blk_lt x968) hb1127)
            have ne1136 : b1114 ≠ b1125 := Nat.ne_of_lt (Nat.lt_of_lt_of_eq (blk_lt x1118) hb1127)
            have x968 := (k1128.block _ (blk_lt x968)).trans x968
            have x1118 := (k1128.block _ (blk_lt x1118)).trans x1118
            have ho1137 := own_empty (base := w.heap.size) (size := 4) x1129 lo1131
            replace ho1137 : World.ownsRow _ _ _ _ _ _ (pipesV []) := ho1137
            have nb1138 : Nb b2 (.slice (some ⟨b1125, 0, none⟩) 0 0) := nb_new ne1132
            have nb1139 : Nb b9 (.slice (some ⟨b1125, 0, none⟩) 0 0) := nb_new ne1133
            have nb1140 : Nb b17 (.slice (some ⟨b1125, 0, none⟩) 0 0) := nb_new ne1134
            have nb1141 : Nb b964 (.slice (some ⟨b1125, 0, none⟩) 0 0) := nb_new ne1135
            have nb1142 : Nb b1114 (.slice (some ⟨b1125, 0, none⟩) 0 0) := nb_new ne1136
            replace ho1137 : World.ownsRow _ _ _ _ _ _ (pipesV []) := ho1137
            refine W.sapR (e := 50) (size := 4) (base := w.heap.size) (v := .slice (some ⟨b1125, 0, none⟩) 0 0) (A := A) (m := k2) (c := c) s1130 rfl rfl rfl rfl (by kernel_rfl) (by kernel_rfl) (by kernel_rfl) ho1137 (Rd.toP (Rd.kept ha (SG.belowR c50 s1130 (fun kq e => by cases e))) (by omega)) (Fm.to hf (by have := (hf).le; omega)) (pipes_one _) (by omega) (by have := ((SG.belowR c50 s1130 (fun kq e => by cases e))).size; omega) (.inr (fun kq e => by have := (s1119).size; have := hb1127; have e' := Option.some.inj e; simp at e'; omega)) (fun A1143 cap1144 w1145 ho1146 hg1147 hat1148 s1149 => ?_)
            refine F.nx ?_
            have nb1150 : Nb b2 (.slice A1143 (0 + k2) cap1144) := nb_app2 nb1138 (Nat.lt_of_lt_of_le (blk_lt x6) (s1130).size) hat1148
            have nb1151 : Nb b9 (.slice A1143 (0 + k2) cap1144) := nb_app2 nb1139 (Nat.lt_of_lt_of_le (blk_lt x13) (s1130).size) hat1148
            have nb1152 : Nb b17 (.slice A1143 (0 + k2) cap1144) := nb_app2 nb1140 (Nat.lt_of_lt_of_le (blk_lt x21) (s1130).size) hat1148
            have nb1153 : Nb b964 (.slice A1143 (0 + k2) cap1144) := nb_app2 nb1141 (blk_lt x968) hat1148
            have x968 := (hg1147.block _ (blk_lt x968) nb1141).trans x968
            have nb1154 : Nb b1114 (.slice A1143 (0 + k2) cap1144) := nb_app2 nb1142 (blk_lt x1118) hat1148
            have x1118 := (hg1147.block _ (blk_lt x1118) nb1142).trans x1118
            have ho1146 := own_joinP ho1146
            have fr1155 : ∀ kq, (.slice A1143 (0 + k2) cap1144 : Value).ownBlock = some kq → wlj1.heap.size ≤ kq := fun kq e => by
              have hs := (s1130).size
              rcases hat1148 with h | h
              · exact (show ∀ kq, Value.ownBlock _ = some kq → wlj1.heap.size ≤ kq from (fun kq e => by have := (s1119).size; have := hb1127; have e' := Option.some.inj e; simp at e'; omega)) kq (h.symm.trans e)
              · have := Option.some.inj (h.symm.trans e); omega
            refine W.sap (e := 50) (size := 4) (base := w.heap.size) (m := 1) (v := .slice A1143 (0 + k2) cap1144) (c := 1) s1149 rfl rfl rfl rfl (by kernel_rfl) (by kernel_rfl) (by kernel_rfl) ho1146 x1118 (by kernel_rfl) (by kernel_rfl) (by omega) (by omega) (by have := ((SG.belowR c50 s1149 (fun kq e => by cases e))).size; omega) (.inr fr1155) (fun g1156 cap1157 w1158 ho1159 hg1160 hat1161 hlt1162 s1163 => ?_)
            refine F.nx ?_
            have nb1164 : Nb b2 (.slice (some ⟨g1156, 0, none⟩) ((0 + k2) + 1) cap1157) := nb_app nb1150 (Nat.lt_of_lt_of_le (blk_lt x6) (s1149).size) hat1161
            have nb1165 : Nb b9 (.slice (some ⟨g1156, 0, none⟩) ((0 + k2) + 1) cap1157) := nb_app nb1151 (Nat.lt_of_lt_of_le (blk_lt x13) (s1149).size) hat1161
            have nb1166 : Nb b17 (.slice (some ⟨g1156, 0, none⟩) ((0 + k2) + 1) cap1157) := nb_app nb1152 (Nat.lt_of_lt_of_le (blk_lt x21) (s1149).size) hat1161
            have nb1167 : Nb b964 (.slice (some ⟨g1156, 0, none⟩) ((0 + k2) + 1) cap1157) := nb_app nb1153 (blk_lt x968) hat1161
            have x968 := (hg1160.block _ (blk_lt x968) nb1153).trans x968
            have nb1168 : Nb b1114 (.slice (some ⟨g1156, 0, none⟩) ((0 + k2) + 1) cap1157) := nb_app nb1154 (blk_lt x1118) hat1161
            have x1118 := (hg1160.block _ (blk_lt x1118) nb1154).trans x1118
            have ho1159 := own_snocP (x := x) ho1159
            have fr1169 : ∀ kq, (.slice (some ⟨g1156, 0, none⟩) ((0 + k2) + 1) cap1157 : Value).ownBlock = some kq → wlj1.heap.size ≤ kq := fun kq e => by
              have hs := (s1149).size
              have e' : g1156 = kq := by simpa [Value.ownBlock] using e
              rcases hat1161 with h | h
              · exact (show ∀ kq, Value.ownBlock _ = some kq → wlj1.heap.size ≤ kq from fr1155) kq (by rw [← e']; exact h)
              · omega
            refine W.sapR (e := 50) (size := 4) (base := w.heap.size) (v := .slice (some ⟨g1156, 0, none⟩) ((0 + k2) + 1) cap1157) (A := (sFrom A c k2 4)) (m := (n - k2)) (c := (c - k2)) s1163 rfl rfl rfl rfl (by kernel_rfl) (by kernel_rfl) (by kernel_rfl) ho1159 (Rd.fromP (Rd.kept ha (SG.belowR c50 s1163 (fun kq e => by cases e))) (by omega) (hf).le) (Fm.from (size := 4) hf (by omega)) (pipes_one _) (by omega) (by have := ((SG.belowR c50 s1163 (fun kq e => by cases e))).size; omega) (.inr fr1169) (fun A1170 cap1171 w1172 ho1173 hg1174 hat1175 s1176 => ?_)
            refine F.nx ?_
            have nb1177 : Nb b2 (.slice A1170 (((0 + k2) + 1) + (n - k2)) cap1171) := nb_app2 nb1164 (Nat.lt_of_lt_of_le (blk_lt x6) (s1163).size) hat1175
            have nb1178 : Nb b9 (.slice A1170 (((0 + k2) + 1) + (n - k2)) cap1171) := nb_app2 nb1165 (Nat.lt_of_lt_of_le (blk_lt x13) (s1163).size) hat1175
            have nb1179 : Nb b17 (.slice A1170 (((0 + k2) + 1) + (n - k2)) cap1171) := nb_app2 nb1166 (Nat.lt_of_lt_of_le (blk_lt x21) (s1163).size) hat1175
            have nb1180 : Nb b964 (.slice A1170 (((0 + k2) + 1) + (n - k2)) cap1171) := nb_app2 nb1167 (blk_lt x968) hat1175
            have x968 := (hg1174.block _ (blk_lt x968) nb1167).trans x968
            have nb1181 : Nb b1114 (.slice A1170 (((0 + k2) + 1) + (n - k2)) cap1171) := nb_app2 nb1168 (blk_lt x1118) hat1175
            have x1118 := (hg1174.block _ (blk_lt x1118) nb1168).trans x1118
            have ho1173 := own_joinP ho1173
            have fr1182 : ∀ kq, (.slice A1170 (((0 + k2) + 1) + (n - k2)) cap1171 : Value).ownBlock = some kq → wlj1.heap.size ≤ kq := fun kq e => by
              have hs := (s1163).size
              rcases hat1175 with h | h
              · exact (show ∀ kq, Value.ownBlock _ = some kq → wlj1.heap.size ≤ kq from fr1169) kq (h.symm.trans e)
              · have := Option.some.inj (h.symm.trans e); omega
            refine F.q (v := .agg #[.int .i64 m, .slice A1170 (((0 + k2) + 1) + (n - k2)) cap1171]) (hr := (r_build rfl (vs := [(0, .int .i64 m), (1, .slice A1170 (((0 + k2) + 1) + (n - k2)) cap1171)]) (by kernel_rfl) (by kernel_rfl))) (h := ?_)
            refine W.ss (v := .agg #[.int .i64 m, .slice A1170 (((0 + k2) + 1) + (n - k2)) cap1171]) (j := 0) (news := [.int .i64 m, .slice A1170 (((0 + k2) + 1) + (n - k2)) cap1171]) (cs' := #[.int .i64 m, .slice A1170 (((0 + k2) + 1) + (n - k2)) cap1171]) s1176 rfl (by kernel_rfl) rfl rfl (by kernel_rfl) (by kernel_rfl) x968 (by kernel_rfl) (by kernel_rfl) (by simp) (by kernel_rfl) (by kernel_rfl) (.inr (Nat.le_trans (s80).size (Nat.le_of_eq hb966))) (fun w1183 g1184 x1185 s1186 => ?_)
            have x1118 := (g1184.block _ (blk_lt x1118) (fun e9 => ne1124 (Option.some.inj e9).symm)).trans x1118
            have ho1187 := own_grown ho1173 g1184 (fun j e1 e2 => by cases e2; exact nb1180 e1.symm)
            refine F.endF [(2, .pointer (some ⟨b2, 0, none⟩)), (3, .pointer (some ⟨b9, 0, none⟩)), (4, .pointer (some ⟨b17, 0, none⟩)), (5, .bool false), (6, .int .i64 ((k2 : Nat) : Int)), (7, .pointer (some ⟨b964, 0, none⟩))] (fun U1188 => ?_)
            have x6 := SG.blk s1186 x6 (Option.some_ne_none _)
            have x13 := SG.blk s1186 x13 (Option.some_ne_none _)
            have x21 := SG.blk s1186 x21 (Option.some_ne_none _)
            have c1189 := (SG.belowR c50 s1186 (fun kq e => by cases e))
            exact h10 0 _ _ ⟨A1170, (((0 + k2) + 1) + (n - k2)), cap1171, b964, (fun iU9 => lk [(2, .pointer (some ⟨b2, 0, none⟩)), (3, .pointer (some ⟨b9, 0, none⟩)), (4, .pointer (some ⟨b17, 0, none⟩)), (5, .bool false), (6, .int .i64 ((k2 : Nat) : Int)), (7, .pointer (some ⟨b964, 0, none⟩))] iU9 (U1188 iU9)), (by kernel_rfl), x6, x13, x21, x1185, lo970, ho1187, by omega, nb1177, nb1178, nb1179, nb1180, ne971, ne972, ne973, c1189⟩
      intro K11 h11
      refine wp_block ?_
      refine loopK (fun am0 aa0 wl0 => ∃ (k : Nat) (U0 : Nat → Value), aa0 = ⟨(fr U0 [(0, .agg #[.int .i64 m, .slice A n c]), (1, .agg #[.int .i64 x.id, .int .i64 x.fr, .int .i64 x.to, .int .i64 x.sz]), (2, .pointer (some ⟨b2, 0, none⟩)), (3, .pointer (some ⟨b9, 0, none⟩)), (4, .pointer (some ⟨b17, 0, none⟩)), (5, .bool false), (6, .int .i64 ((k : Nat) : Int)), (17, .bool false)] 59 0).toArray, []⟩ ∧ (am0 = n - k) ∧ (k ≤ n) ∧ (∀ j z, j < k → ps[j]? = some z → z.id < x.id) ∧ (wl0.heap[b2]? = some (.cells #[.int .i64 m, .slice A n c] 29 (0, 0))) ∧ (wl0.heap[b9]? = some (.cells #[.int .i64 x.id, .int .i64 x.fr, .int .i64 x.to, .int .i64 x.sz] 50 (0, 0))) ∧ (wl0.heap[b17]? = some (.cells #[.int .i64 0, .slice none 0 0] 29 (0, 0))) ∧ (Below w.heap.size w wl0)) (n - 0) ?_ ?_
      · exact ⟨0, (fun iU9 => lk [(0, .agg #[.int .i64 m, .slice A n c]), (1, .agg #[.int .i64 x.id, .int .i64 x.fr, .int .i64 x.to, .int .i64 x.sz]), (2, .pointer (some ⟨b2, 0, none⟩)), (3, .pointer (some ⟨b9, 0, none⟩)), (4, .pointer (some ⟨b17, 0, none⟩)), (5, .bool false), (6, .int .i64 0), (17, .bool false)] iU9 (U49 iU9)), (by kernel_rfl), rfl, (Nat.zero_le _), (fun j z hj => absurd hj (by omega)), x6, x13, x21, c48⟩
      rintro am0 aa0 wl0 K12 h12 ⟨k, U0, rfl, rfl, hk, hpre, x6, x13, x21, c1190⟩
      refine wp_seq_k (fun K13 h13 => ?_)
      refine wp_seq_k (fun K14 h14 => ?_)
      refine W.region_sch (row := none) (Sch.of [(0, false), (1, false), (2, false), (3, false), (4, false), (5, false), (6, false), (7, false), (8, false), (9, false), (10, false), (11, false), (12, false), (13, false), (14, false), (15, false)]) (by kernel_rfl) (by kernel_rfl) (fun _ d _ _ _ h => by cases d <;> exact h) (by kernel_rfl) (fun w1191 e1192 s1193 => ?_)
      refine F.mv (v := .int .i64 ((k : Nat) : Int)) (h := ?_)
      refine F.q (v := .pointer (some ⟨b2, 1, none⟩)) (hr := (r_field (k := 1) rfl (ev_any (by kernel_rfl)) (by kernel_rfl))) (h := ?_)
      refine F.ld (v := .slice A n c) (hc := (sgS (blk_cell (j := 1) x6 (by kernel_rfl)) (Option.some_ne_none _))) (h := ?_)
      refine F.q (v := .int .i64 ((n : Nat) : Int)) (hr := (r_len (A := A) (n := n) (c := c) rfl (ev_any (by kernel_rfl)) (by kernel_rfl))) (h := ?_)
      by_cases q1194 : (((k : Nat) : Int) : Int) < (((n : Nat) : Int) : Int)
      · refine F.q (v := .bool true) (hr := (r_lss (m := ((k : Nat) : Int)) (n := ((n : Nat) : Int)) rfl (ev_any (by kernel_rfl)) (ev_any (by kernel_rfl)) (decide_eq_true q1194))) (h := ?_)
        refine F.mv (v := .bool true) (h := ?_)
        refine F.q (v := .pointer (some ⟨b2, 1, none⟩)) (hr := (r_field (k := 1) rfl (ev_any (by kernel_rfl)) (by kernel_rfl))) (h := ?_)
        refine F.ld (v := .slice A n c) (hc := (sgS (blk_cell (j := 1) x6 (by kernel_rfl)) (Option.some_ne_none _))) (h := ?_)
        refine F.mv (v := .int .i64 ((k : Nat) : Int)) (h := ?_)
        obtain ⟨x1195, hx1196⟩ := get_of (zs := ps) (k := k) (by have := hl; omega)
        obtain ⟨b1197, o1198, hA1199, hb1200, hc1201, hc1202, hc1203, hc1204⟩ := Rd.elPipe ha hx1196
        refine F.q (v := .pointer (some ⟨b1197, o1198 + k * 4, none⟩)) (hr := (r_idx (n := n) (c := c) (k := k) rfl (ev_any (by kernel_rfl)) hA1199 (by kernel_rfl) (by kernel_rfl) (by have := hl; omega))) (h := ?_)
        refine F.q (v := .pointer (some ⟨b1197, o1198 + k * 4, none⟩)) (hr := (r_field0 rfl (ev_any (by kernel_rfl)) (by kernel_rfl))) (h := ?_)
        refine F.ld (v := .int .i64 x1195.id) (hc := (sgS (later c1190 hc1201) (by simp))) (h := ?_)
        refine F.q (v := .pointer (some ⟨b9, 0, none⟩)) (hr := (r_field0 rfl (ev_any (by kernel_rfl)) (by kernel_rfl))) (h := ?_)
        refine F.ld (v := .int .i64 x.id) (hc := (sgS (blk_cell (j := 0) x13 (by kernel_rfl)) (Option.some_ne_none _))) (h := ?_)
        by_cases q1205 : (x1195.id : Int) < (x.id : Int)
        · refine F.q (v := .bool true) (hr := (r_lss (m := x1195.id) (n := x.id) rfl (ev_any (by kernel_rfl)) (ev_any (by kernel_rfl)) (decide_eq_true q1205))) (h := ?_)
          refine F.q (v := .bool true) (hr := (r_pick (b := true) rfl (ev_any (by kernel_rfl)) (ev_any (by kernel_rfl)))) (h := ?_)
          refine F.endF [(0, .agg #[.int .i64 m, .slice A n c]), (1, .agg #[.int .i64 x.id, .int .i64 x.fr, .int .i64 x.to, .int .i64 x.sz]), (2, .pointer (some ⟨b2, 0, none⟩)), (3, .pointer (some ⟨b9, 0, none⟩)), (4, .pointer (some ⟨b17, 0, none⟩)), (5, .bool false), (6, .int .i64 ((k : Nat) : Int)), (17, .bool false), (34, .bool true)] (fun U1206 => ?_)
          have x6 := SG.blk s1193 x6 (Option.some_ne_none _)
          have x13 := SG.blk s1193 x13 (Option.some_ne_none _)
          have x21 := SG.blk s1193 x21 (Option.some_ne_none _)
          have c1207 := (SG.belowR c1190 s1193 (fun kq e => by cases e))
          refine h14 _ _ ?_
          as_aux_lemma =>
            refine wp_cond_true (by kernel_rfl) ?_
            refine wp_skip ?_
            refine h13 _ _ ?_
            refine wp_block ?_
            refine W.region_quiet [(0, false), (1, false), (2, false)] (by kernel_rfl) ?_
            refine F.mv (v := .int .i64 ((k : Nat) : Int)) (h := ?_)
            refine F.q (v := .int .i64 ((k + 1 : Nat) : Int)) (hr := (r_add (m := ((k : Nat) : Int)) (n := 1) (z := ((k + 1 : Nat) : Int)) rfl (ev_any (by kernel_rfl)) (ev_any (by kernel_rfl)) (by omega) (by omega))) (h := ?_)
            refine F.as (v := .int .i64 ((k + 1 : Nat) : Int)) (h := ?_)
            refine F.endF [(0, .agg #[.int .i64 m, .slice A n c]), (1, .agg #[.int .i64 x.id, .int .i64 x.fr, .int .i64 x.to, .int .i64 x.sz]), (2, .pointer (some ⟨b2, 0, none⟩)), (3, .pointer (some ⟨b9, 0, none⟩)), (4, .pointer (some ⟨b17, 0, none⟩)), (5, .bool false), (6, .int .i64 ((k + 1 : Nat) : Int)), (17, .bool false), (34, .bool true)] (fun U1208 => ?_)
            exact h12 _ _ _ (by omega : (n - (k + 1)) < _) ⟨k + 1, (fun iU9 => lk [(0, .agg #[.int .i64 m, .slice A n c]), (1, .agg #[.int .i64 x.id, .int .i64 x.fr, .int .i64 x.to, .int .i64 x.sz]), (2, .pointer (some ⟨b2, 0, none⟩)), (3, .pointer (some ⟨b9, 0, none⟩)), (4, .pointer (some ⟨b17, 0, none⟩)), (5, .bool false), (6, .int .i64 ((k + 1 : Nat) : Int)), (17, .bool false), (34, .bool true)] iU9 (U1208 iU9)), (by kernel_rfl), rfl, (by omega), (upto_succ (Q := fun z => z.id < x.id) hpre hx1196 (by omega)), x6, x13, x21, c1207⟩
        · refine F.q (v := .bool false) (hr := (r_lss (m := x1195.id) (n := x.id) rfl (ev_any (by kernel_rfl)) (ev_any (by kernel_rfl)) (decide_eq_false q1205))) (h := ?_)
          refine F.q (v := .bool false) (hr := (r_pick (b := true) rfl (ev_any (by kernel_rfl)) (ev_any (by kernel_rfl)))) (h := ?_)
          refine F.endF [(0, .agg #[.int .i64 m, .slice A n c]), (1, .agg #[.int .i64 x.id, .int .i64 x.fr, .int .i64 x.to, .int .i64 x.sz]), (2, .pointer (some ⟨b2, 0, none⟩)), (3, .pointer (some ⟨b9, 0, none⟩)), (4, .pointer (some ⟨b17, 0, none⟩)), (5, .bool false), (6, .int .i64 ((k : Nat) : Int)), (17, .bool false), (34, .bool false)] (fun U1209 => ?_)
          have x6 := SG.blk s1193 x6 (Option.some_ne_none _)
          have x13 := SG.blk s1193 x13 (Option.some_ne_none _)
          have x21 := SG.blk s1193 x21 (Option.some_ne_none _)
          have c1210 := (SG.belowR c1190 s1193 (fun kq e => by cases e))
          refine h14 _ _ ?_
          refine wp_cond_false (by kernel_rfl) ?_
          refine wp_exit ?_
          have hkk9 : insAtP ps x.id = k := insAtP_at hpre (by omega) (fun z9 hz9 => by rw [hx1196] at hz9; cases hz9; omega)
          exact h11 _ _ _ ⟨k, (fun iU9 => lk [(0, .agg #[.int .i64 m, .slice A n c]), (1, .agg #[.int .i64 x.id, .int .i64 x.fr, .int .i64 x.to, .int .i64 x.sz]), (2, .pointer (some ⟨b2, 0, none⟩)), (3, .pointer (some ⟨b9, 0, none⟩)), (4, .pointer (some ⟨b17, 0, none⟩)), (5, .bool false), (6, .int .i64 ((k : Nat) : Int)), (17, .bool false), (34, .bool false)] iU9 (U1209 iU9)), (by kernel_rfl), rfl, (by omega), hkk9, x6, x13, x21, c1210⟩
      · refine F.q (v := .bool false) (hr := (r_lss (m := ((k : Nat) : Int)) (n := ((n : Nat) : Int)) rfl (ev_any (by kernel_rfl)) (ev_any (by kernel_rfl)) (decide_eq_false q1194))) (h := ?_)
        refine F.mv (v := .bool false) (h := ?_)
        refine F.sp s1193 (h := ?_)
        refine F.sp s1193 (h := ?_)
        refine F.sp s1193 (h := ?_)
        refine F.sp s1193 (h := ?_)
        refine F.sp s1193 (h := ?_)
        refine F.sp s1193 (h := ?_)
        refine F.sp s1193 (h := ?_)
        refine F.sp s1193 (h := ?_)
        refine F.sp s1193 (h := ?_)
        refine F.q (v := .bool false) (hr := (r_pick (b := false) rfl (ev_any (by kernel_rfl)) (ev_any (by kernel_rfl)))) (h := ?_)
        refine F.endF [(0, .agg #[.int .i64 m, .slice A n c]), (1, .agg #[.int .i64 x.id, .int .i64 x.fr, .int .i64 x.to, .int .i64 x.sz]), (2, .pointer (some ⟨b2, 0, none⟩)), (3, .pointer (some ⟨b9, 0, none⟩)), (4, .pointer (some ⟨b17, 0, none⟩)), (5, .bool false), (6, .int .i64 ((k : Nat) : Int)), (17, .bool false), (34, .bool false)] (fun U1211 => ?_)
        have x6 := SG.blk s1193 x6 (Option.some_ne_none _)
        have x13 := SG.blk s1193 x13 (Option.some_ne_none _)
        have x21 := SG.blk s1193 x21 (Option.some_ne_none _)
        have c1212 := (SG.belowR c1190 s1193 (fun kq e => by cases e))
        refine h14 _ _ ?_
        refine wp_cond_false (by kernel_rfl) ?_
        refine wp_exit ?_
        have hkk9 : insAtP ps x.id = k := insAtP_at hpre (by omega) (fun z9 hz9 => by have h8 := (List.getElem?_eq_some_iff.1 hz9).1; omega)
        exact h11 _ _ _ ⟨k, (fun iU9 => lk [(0, .agg #[.int .i64 m, .slice A n c]), (1, .agg #[.int .i64 x.id, .int .i64 x.fr, .int .i64 x.to, .int .i64 x.sz]), (2, .pointer (some ⟨b2, 0, none⟩)), (3, .pointer (some ⟨b9, 0, none⟩)), (4, .pointer (some ⟨b17, 0, none⟩)), (5, .bool false), (6, .int .i64 ((k : Nat) : Int)), (17, .bool false), (34, .bool false)] iU9 (U1211 iU9)), (by kernel_rfl), rfl, (by omega), hkk9, x6, x13, x21, c1212⟩
  · rw [q32]
    refine F.q (v := .bool true) (hr := (r_not (b := false) rfl (ev_any (by kernel_rfl)) rfl)) (h := ?_)
    refine F.mv (v := .bool true) (h := ?_)
    refine F.sp s31 (h := ?_)
    refine F.sp s31 (h := ?_)
    refine F.sp s31 (h := ?_)
    refine F.sp s31 (h := ?_)
    refine F.sp s31 (h := ?_)
    refine F.q (v := .bool true) (hr := (r_pick (b := true) rfl (ev_any (by kernel_rfl)) (ev_any (by kernel_rfl)))) (h := ?_)
    refine F.endF [(0, .agg #[.int .i64 m, .slice A n c]), (1, .agg #[.int .i64 x.id, .int .i64 x.fr, .int .i64 x.to, .int .i64 x.sz]), (2, .pointer (some ⟨b2, 0, none⟩)), (3, .pointer (some ⟨b9, 0, none⟩)), (4, .pointer (some ⟨b17, 0, none⟩)), (5, .bool false), (17, .bool true)] (fun U1213 => ?_)
    have x6 := SG.blk s31 x6 (Option.some_ne_none _)
    have x13 := SG.blk s31 x13 (Option.some_ne_none _)
    have x21 := SG.blk s31 x21 (Option.some_ne_none _)
    have c1214 := (SG.belowR c27 s31 (fun kq e => by cases e))
    refine h3 _ _ ?_
    refine wp_cond_true (by kernel_rfl) ?_
    refine wp_seq_k (fun K15 h15 => ?_)
    refine W.region_plain (row := (some b17)) [(0, false), (1, true), (2, false)] (by kernel_rfl) ?_
    have s1215 := SG.self w30 (some b17)
    refine F.q (v := .agg #[.int .i64 0, .slice none 0 0]) (hr := (r_build rfl (vs := []) (by kernel_rfl) (by kernel_rfl))) (h := ?_)
    refine W.ss (v := .agg #[.int .i64 0, .slice none 0 0]) (j := 0) (news := [.int .i64 0, .slice none 0 0]) (cs' := #[.int .i64 0, .slice none 0 0]) s1215 rfl (by kernel_rfl) rfl rfl (by kernel_rfl) (by kernel_rfl) x21 (by kernel_rfl) (by kernel_rfl) (by simp) (by kernel_rfl) (by kernel_rfl) (.inl rfl) (fun w1216 g1217 x1218 s1219 => ?_)
    refine F.as (v := .bool false) (h := ?_)
    refine F.endF [(0, .agg #[.int .i64 m, .slice A n c]), (1, .agg #[.int .i64 x.id, .int .i64 x.fr, .int .i64 x.to, .int .i64 x.sz]), (2, .pointer (some ⟨b2, 0, none⟩)), (3, .pointer (some ⟨b9, 0, none⟩)), (4, .pointer (some ⟨b17, 0, none⟩)), (5, .bool false), (17, .bool true)] (fun U1220 => ?_)
    have x6 := SG.blk s1219 x6 (fun e9 => ne24 (Option.some.inj e9))
    have x13 := SG.blk s1219 x13 (fun e9 => ne25 (Option.some.inj e9))
    have c1221 := (SG.belowR c1214 s1219 (fun kq e => by cases e; exact lo23))
    refine h15 _ _ ?_
    as_aux_lemma =>
      refine wp_ret ?_
      try simp only [Exit.then]
      refine retCT (x := .bool false) rfl (by kernel_rfl) (by kernel_rfl) (by kernel_rfl) (by kernel_rfl) x1218 ?_
      exact fin_rdn (rd_none4 _) (add_no q32).2.2.symm (add_no q32).2.1.symm (add_no q32).1.symm c1221

end Go.Proofs.Ytmfapokolgnnhaa
