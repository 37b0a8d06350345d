/- AddPipe: the program. -/
import Derived.Test.YtmfapokolgnnhaaAddP
import Derived.Test.YtmfapokolgnnhaaFind
import Derived.Test.YtmfapokolgnnhaaFinN
import Derived.Test.YtmfapokolgnnhaaRes
import Derived.Test.YtmfapokolgnnhaaCurP
import Derived.Test.YtmfapokolgnnhaaJoinK
import Derived.Test.YtmfapokolgnnhaaInsP
import Derived.Test.YtmfapokolgnnhaaFr
namespace Go.Proofs.Ytmfapokolgnnhaa
open Go.RowKit
set_option linter.unusedVariables false
set_option linter.unusedSimpArgs false

set_option maxRecDepth 100000 in
set_option maxHeartbeats 8000000 in
theorem AddPipe_impl (m : Int) (A : Option Addr) (n c : Nat) (ps : List Pp) (x : Pp) (w : World) (ha : Rd w 4 A n (pipesV ps)) (hn : n ≤ 1048576) (hf : Fm A n c) :
    Calls Try.prog 35 #[.agg #[.int .i64 m, .slice A n c], .agg #[.int .i64 x.id, .int .i64 x.fr, .int .i64 x.to, .int .i64 x.sz]] w fun e w' => ∃ A' d, e = .returned (.tuple #[.agg #[.int .i64 (AddPipe_m0 m ps x), .slice A' (AddPipe_v0 m ps x).length d], .bool (AddPipe_v1 m ps x)]) ∧ w'.ownsRow w.heap.size 50 4 (.slice A' (AddPipe_v0 m ps x).length d) (AddPipe_v0 m ps x).length (pipesV (AddPipe_v0 m ps x)) ∧ Below w.heap.size w w' := by
  have hl := rd_pipes_len ha
  go_enter Try.func35, Try.ntmps35
  refine wp_seq_k (fun K1 h1 => ?_)
  refine W.region_plain (row := none) [(0, true), (1, true), (2, true), (3, false)] (by kernel_rfl) ?_
  have s1 := SG.self w none
  refine W.sn (fun b => .pointer (some ⟨b, 0, none⟩)) #[.int .i64 m, .slice A n c] 29 s1 rfl (by kernel_rfl) rfl (fun _ => by kernel_rfl) (fun b2 w3 hb4 k5 x6 s7 => ?_)
  have lo8 : w.heap.size ≤ b2 := Nat.le_trans ((SG.belowR (Below.refl _ _) s1 (fun kq e => by cases e))).size (Nat.le_of_eq hb4)
  refine W.sn (fun b => .pointer (some ⟨b, 0, none⟩)) #[.int .i64 x.id, .int .i64 x.fr, .int .i64 x.to, .int .i64 x.sz] 50 s7 rfl (by kernel_rfl) rfl (fun _ => by kernel_rfl) (fun b9 w10 hb11 k12 x13 s14 => ?_)
  have lo15 : w.heap.size ≤ b9 := Nat.le_trans ((SG.belowR (Below.refl _ _) s7 (fun kq e => by cases e))).size (Nat.le_of_eq hb11)
  have ne16 : b2 ≠ b9 := Nat.ne_of_lt (Nat.lt_of_lt_of_eq (blk_lt x6) hb11)
  have x6 := (k12.block _ (blk_lt x6)).trans x6
  refine W.sn (fun b => .pointer (some ⟨b, 0, none⟩)) #[.int .i64 0, .slice none 0 0] 29 s14 rfl (by kernel_rfl) rfl (fun _ => by kernel_rfl) (fun b17 w18 hb19 k20 x21 s22 => ?_)
  have lo23 : w.heap.size ≤ b17 := Nat.le_trans ((SG.belowR (Below.refl _ _) s14 (fun kq e => by cases e))).size (Nat.le_of_eq hb19)
  have ne24 : b2 ≠ b17 := Nat.ne_of_lt (Nat.lt_of_lt_of_eq (blk_lt x6) hb19)
  have ne25 : b9 ≠ b17 := Nat.ne_of_lt (Nat.lt_of_lt_of_eq (blk_lt x13) hb19)
  have x6 := (k20.block _ (blk_lt x6)).trans x6
  have x13 := (k20.block _ (blk_lt x13)).trans x13
  refine W.as (v := .bool false) (h := ?_)
  refine W.endF 46 [(0, .agg #[.int .i64 m, .slice A n c]), (1, .agg #[.int .i64 x.id, .int .i64 x.fr, .int .i64 x.to, .int .i64 x.sz]), (2, .pointer (some ⟨b2, 0, none⟩)), (3, .pointer (some ⟨b9, 0, none⟩)), (4, .pointer (some ⟨b17, 0, none⟩)), (5, .bool false)] (fun U26 => ?_)
  have c27 := (SG.belowR (Below.refl _ _) s22 (fun kq e => by cases e))
  refine h1 _ _ ?_
  refine wp_seq_k (fun K2 h2 => ?_)
  refine wp_seq_k (fun K3 h3 => ?_)
  refine W.region_plain (row := none) [(0, false), (1, true), (2, false)] (by kernel_rfl) ?_
  have s28 := SG.self w18 none
  refine F.q (v := .agg #[.int .i64 m, .slice A n c]) (hr := (r_load2 rfl (ev_any (by kernel_rfl)) (by kernel_rfl) (by kernel_rfl) (sgS (blk_cell (j := 0) x6 (by kernel_rfl)) (Option.some_ne_none _)) (sgS (blk_cell (j := 1) x6 (by kernel_rfl)) (Option.some_ne_none _)))) (h := ?_)
  refine W.sc (vs := [.agg #[.int .i64 m, .slice A n c]]) rfl rfl (by kernel_rfl) (by kernel_rfl) (by kernel_rfl) rfl (IsValid_any m A n c ps _ (Rd.kept ha (SG.belowR c27 s28 (fun kq e => by cases e))) (by omega)) ?_
  rintro e w30 ⟨rfl, b29⟩
  have s31 := SG.of_below s28 b29
  refine ⟨_, rfl, s31, ?_⟩
  refine F.nx ?_
  rcases Bool.eq_false_or_eq_true (goodN m ps) with q32 | q32
  · rw [q32]
    have hgl33 := (good_of q32).len
    refine F.q (v := .bool false) (hr := (r_not (b := true) rfl (ev_any (by kernel_rfl)) rfl)) (h := ?_)
    refine F.endF [(0, .agg #[.int .i64 m, .slice A n c]), (1, .agg #[.int .i64 x.id, .int .i64 x.fr, .int .i64 x.to, .int .i64 x.sz]), (2, .pointer (some ⟨b2, 0, none⟩)), (3, .pointer (some ⟨b9, 0, none⟩)), (4, .pointer (some ⟨b17, 0, none⟩)), (5, .bool false), (10, .bool false)] (fun U34 => ?_)
    have x6 := SG.blk s31 x6 (Option.some_ne_none _)
    have x13 := SG.blk s31 x13 (Option.some_ne_none _)
    have x21 := SG.blk s31 x21 (Option.some_ne_none _)
    have c35 := (SG.belowR c27 s31 (fun kq e => by cases e))
    refine h3 _ _ ?_
    refine wp_cond_false (by kernel_rfl) ?_
    refine wp_skip ?_
    refine h2 _ _ ?_
    refine wp_seq_k (fun K4 h4 => ?_)
    refine W.region_quiet [(0, false)] (by kernel_rfl) ?_
    refine F.as (v := .int .i64 0) (h := ?_)
    refine F.endF [(0, .agg #[.int .i64 m, .slice A n c]), (1, .agg #[.int .i64 x.id, .int .i64 x.fr, .int .i64 x.to, .int .i64 x.sz]), (2, .pointer (some ⟨b2, 0, none⟩)), (3, .pointer (some ⟨b9, 0, none⟩)), (4, .pointer (some ⟨b17, 0, none⟩)), (5, .bool false), (6, .int .i64 0), (10, .bool false)] (fun U36 => ?_)
    refine h4 _ _ ?_
    refine joinK (fun amj1 aaj1 wlj1 => ∃ (k2 : Nat) (Uj1 : Nat → Value), aaj1 = ⟨(fr Uj1 [(2, .pointer (some ⟨b2, 0, none⟩)), (3, .pointer (some ⟨b9, 0, none⟩)), (4, .pointer (some ⟨b17, 0, none⟩)), (5, .bool false), (6, .int .i64 ((k2 : Nat) : Int))] 46 0).toArray, []⟩ ∧ (amj1 = 0) ∧ (k2 ≤ n) ∧ (insAtP ps x.id = k2) ∧ (wlj1.heap[b2]? = some (.cells #[.int .i64 m, .slice A n c] 29 (0, 0))) ∧ (wlj1.heap[b9]? = some (.cells #[.int .i64 x.id, .int .i64 x.fr, .int .i64 x.to, .int .i64 x.sz] 50 (0, 0))) ∧ (wlj1.heap[b17]? = some (.cells #[.int .i64 0, .slice none 0 0] 29 (0, 0))) ∧ (Below w.heap.size w wlj1)) ?_ ?_
    · rintro amj1 aaj1 wlj1 ⟨k2, Uj1, rfl, rfl, hk2, hkk, x6, x13, x21, c37⟩
      refine joinK (fun _ aa7 wl7 => ∃ (A7 : Option Addr) (n7 c7 g7 : Nat) (U7 : Nat → Value), aa7 = ⟨(fr U7 [(2, .pointer (some ⟨b2, 0, none⟩)), (3, .pointer (some ⟨b9, 0, none⟩)), (4, .pointer (some ⟨b17, 0, none⟩)), (5, .bool false), (6, .int .i64 ((k2 : Nat) : Int)), (7, .pointer (some ⟨g7, 0, none⟩))] 46 0).toArray, []⟩ ∧ (wl7.heap[b2]? = some (.cells #[.int .i64 m, .slice A n c] 29 (0, 0))) ∧ (wl7.heap[b9]? = some (.cells #[.int .i64 x.id, .int .i64 x.fr, .int .i64 x.to, .int .i64 x.sz] 50 (0, 0))) ∧ (wl7.heap[b17]? = some (.cells #[.int .i64 0, .slice none 0 0] 29 (0, 0))) ∧ (wl7.heap[g7]? = some (.cells #[.int .i64 m, .slice A7 n7 c7] 29 (0, 0))) ∧ (w.heap.size ≤ g7) ∧ (wl7.ownsRow w.heap.size 50 4 (.slice A7 n7 c7) n7 (pipesV (ps.take k2 ++ x :: ps.drop k2))) ∧ (n7 ≤ n + 1) ∧ (Nb b2 (.slice A7 n7 c7)) ∧ (Nb b9 (.slice A7 n7 c7)) ∧ (Nb b17 (.slice A7 n7 c7)) ∧ (Nb g7 (.slice A7 n7 c7)) ∧ (b2 ≠ g7) ∧ (b9 ≠ g7) ∧ (b17 ≠ g7) ∧ (Below w.heap.size w wl7)) ?_ ?_
      · rintro am7 aa7 wl7 ⟨A7, n7, c7, g7, U7, rfl, x6, x13, x21, hx7, hlo7, ho7, hn7, nb7_0, nb7_1, nb7_2, nb7_g, ne7_0, ne7_1, ne7_2, c7b⟩
        refine wp_seq_k (fun K5 h5 => ?_)
        refine wp_seq_k (fun K6 h6 => ?_)
        refine W.region_plain (row := none) [(0, false), (1, true), (2, false)] (by kernel_rfl) ?_
        have s38 := SG.self wl7 none
        refine F.q (v := .agg #[.int .i64 m, .slice A7 n7 c7]) (hr := (r_load2 rfl (ev_any (by kernel_rfl)) (by kernel_rfl) (by kernel_rfl) (sgS (blk_cell (j := 0) hx7 (by kernel_rfl)) (Option.some_ne_none _)) (sgS (blk_cell (j := 1) hx7 (by kernel_rfl)) (Option.some_ne_none _)))) (h := ?_)
        refine W.sc (vs := [.agg #[.int .i64 m, .slice A7 n7 c7]]) rfl rfl (by kernel_rfl) (by kernel_rfl) (by kernel_rfl) rfl (IsValid_any m A7 n7 c7 (ps.take k2 ++ x :: ps.drop k2) _ (own_rd ho7) (by omega)) ?_
        rintro e w40 ⟨rfl, b39⟩
        have s41 := SG.of_below s38 b39
        refine ⟨_, rfl, s41, ?_⟩
        refine F.nx ?_
        have ho42 := own_kept ho7 b39
        rcases Bool.eq_false_or_eq_true (goodN m (ps.take k2 ++ x :: ps.drop k2)) with q43 | q43
        · rw [q43]
          have hgl44 := (good_of q43).len
          refine F.q (v := .bool false) (hr := (r_not (b := true) rfl (ev_any (by kernel_rfl)) rfl)) (h := ?_)
          refine F.endF [(2, .pointer (some ⟨b2, 0, none⟩)), (3, .pointer (some ⟨b9, 0, none⟩)), (4, .pointer (some ⟨b17, 0, none⟩)), (5, .bool false), (6, .int .i64 ((k2 : Nat) : Int)), (7, .pointer (some ⟨g7, 0, none⟩)), (43, .bool false)] (fun U45 => ?_)
          have x6 := SG.blk s41 x6 (Option.some_ne_none _)
          have x13 := SG.blk s41 x13 (Option.some_ne_none _)
          have x21 := SG.blk s41 x21 (Option.some_ne_none _)
          have hx7 := SG.blk s41 hx7 (Option.some_ne_none _)
          have c46 := (SG.belowR c7b s41 (fun kq e => by cases e))
          refine h6 _ _ ?_
          as_aux_lemma =>
            refine wp_cond_false (by kernel_rfl) ?_
            refine wp_skip ?_
            refine h5 _ _ ?_
            refine wp_seq_k (fun K7 h7 => ?_)
            refine W.region_plain (row := (some b17)) [(0, false), (1, true), (2, false)] (by kernel_rfl) ?_
            have s47 := SG.self w40 (some b17)
            refine F.q (v := .agg #[.int .i64 m, .slice A7 n7 c7]) (hr := (r_load2 rfl (ev_any (by kernel_rfl)) (by kernel_rfl) (by kernel_rfl) (sgS (blk_cell (j := 0) hx7 (by kernel_rfl)) (fun e9 => ne7_2 (Option.some.inj e9).symm)) (sgS (blk_cell (j := 1) hx7 (by kernel_rfl)) (fun e9 => ne7_2 (Option.some.inj e9).symm)))) (h := ?_)
            refine W.ss (v := .agg #[.int .i64 m, .slice A7 n7 c7]) (j := 0) (news := [.int .i64 m, .slice A7 n7 c7]) (cs' := #[.int .i64 m, .slice A7 n7 c7]) s47 rfl (by kernel_rfl) rfl rfl (by kernel_rfl) (by kernel_rfl) x21 (by kernel_rfl) (by kernel_rfl) (by simp) (by kernel_rfl) (by kernel_rfl) (.inl rfl) (fun w48 g49 x50 s51 => ?_)
            have ho52 := own_grown ho42 g49 (fun j e1 e2 => by cases e2; exact nb7_2 e1.symm)
            refine F.as (v := .bool true) (h := ?_)
            refine F.endF [(2, .pointer (some ⟨b2, 0, none⟩)), (3, .pointer (some ⟨b9, 0, none⟩)), (4, .pointer (some ⟨b17, 0, none⟩)), (5, .bool true), (6, .int .i64 ((k2 : Nat) : Int)), (7, .pointer (some ⟨g7, 0, none⟩)), (43, .bool false)] (fun U53 => ?_)
            have x6 := SG.blk s51 x6 (fun e9 => ne24 (Option.some.inj e9))
            have x13 := SG.blk s51 x13 (fun e9 => ne25 (Option.some.inj e9))
            have hx7 := SG.blk s51 hx7 (fun e9 => ne7_2 (Option.some.inj e9).symm)
            have c54 := (SG.belowR c46 s51 (fun kq e => by cases e; exact lo23))
            refine h7 _ _ ?_
            refine wp_ret ?_
            try simp only [Exit.then]
            refine retCT (x := .bool true) rfl (by kernel_rfl) (by kernel_rfl) (by kernel_rfl) (by kernel_rfl) x50 ?_
            have hm9 : moreP ps x = (ps.take k2 ++ x :: ps.drop k2) := moreP_is hkk
            exact fin_net ho52 (add_of q32 hm9 q43).2.2.symm (add_of q32 hm9 q43).2.1.symm (add_of q32 hm9 q43).1.symm c54
        · rw [q43]
          refine F.q (v := .bool true) (hr := (r_not (b := false) rfl (ev_any (by kernel_rfl)) rfl)) (h := ?_)
          refine F.endF [(2, .pointer (some ⟨b2, 0, none⟩)), (3, .pointer (some ⟨b9, 0, none⟩)), (4, .pointer (some ⟨b17, 0, none⟩)), (5, .bool false), (6, .int .i64 ((k2 : Nat) : Int)), (7, .pointer (some ⟨g7, 0, none⟩)), (43, .bool true)] (fun U55 => ?_)
          have x6 := SG.blk s41 x6 (Option.some_ne_none _)
          have x13 := SG.blk s41 x13 (Option.some_ne_none _)
          have x21 := SG.blk s41 x21 (Option.some_ne_none _)
          have hx7 := SG.blk s41 hx7 (Option.some_ne_none _)
          have c56 := (SG.belowR c7b s41 (fun kq e => by cases e))
          refine h6 _ _ ?_
          refine wp_cond_true (by kernel_rfl) ?_
          refine wp_seq_k (fun K8 h8 => ?_)
          refine W.region_plain (row := (some b17)) [(0, false), (1, true), (2, false)] (by kernel_rfl) ?_
          have s57 := SG.self w40 (some b17)
          refine F.q (v := .agg #[.int .i64 0, .slice none 0 0]) (hr := (r_build rfl (vs := []) (by kernel_rfl) (by kernel_rfl))) (h := ?_)
          refine W.ss (v := .agg #[.int .i64 0, .slice none 0 0]) (j := 0) (news := [.int .i64 0, .slice none 0 0]) (cs' := #[.int .i64 0, .slice none 0 0]) s57 rfl (by kernel_rfl) rfl rfl (by kernel_rfl) (by kernel_rfl) x21 (by kernel_rfl) (by kernel_rfl) (by simp) (by kernel_rfl) (by kernel_rfl) (.inl rfl) (fun w58 g59 x60 s61 => ?_)
          have ho62 := own_grown ho42 g59 (fun j e1 e2 => by cases e2; exact nb7_2 e1.symm)
          refine F.as (v := .bool false) (h := ?_)
          refine F.endF [(2, .pointer (some ⟨b2, 0, none⟩)), (3, .pointer (some ⟨b9, 0, none⟩)), (4, .pointer (some ⟨b17, 0, none⟩)), (5, .bool false), (6, .int .i64 ((k2 : Nat) : Int)), (7, .pointer (some ⟨g7, 0, none⟩)), (43, .bool true)] (fun U63 => ?_)
          have x6 := SG.blk s61 x6 (fun e9 => ne24 (Option.some.inj e9))
          have x13 := SG.blk s61 x13 (fun e9 => ne25 (Option.some.inj e9))
          have hx7 := SG.blk s61 hx7 (fun e9 => ne7_2 (Option.some.inj e9).symm)
          have c64 := (SG.belowR c56 s61 (fun kq e => by cases e; exact lo23))
          refine h8 _ _ ?_
          refine wp_ret ?_
          try simp only [Exit.then]
          refine retCT (x := .bool false) rfl (by kernel_rfl) (by kernel_rfl) (by kernel_rfl) (by kernel_rfl) x60 ?_
          have hm9 : moreP ps x = (ps.take k2 ++ x :: ps.drop k2) := moreP_is hkk
          exact fin_net (zs := []) (World.ownsRow_nil _ _ _ _) (add_bad hm9 q43).2.2.symm (add_bad hm9 q43).2.1.symm (add_bad hm9 q43).1.symm c64
      intro K9 h9
      refine W.region_sch (row := none) (Sch.app [(0, false), (1, false), (3, false), (4, false), (6, false), (7, false)] (.br3 2 8 11 (Sch.app [] (.br3 5 8 11 (Sch.app [] (.br 8 11 (Sch.app [] (.br 9 11 (Sch.of [(10, false), (11, true), (12, true)]) (Sch.of [(9, true), (10, false), (12, true)]))) (Sch.of [(8, true), (9, true), (10, false), (12, true)]))) (Sch.app [] (.br 5 11 (Sch.app [] (.br 9 11 (Sch.of [(10, false), (11, true), (12, true)]) (Sch.of [(9, true), (10, false), (12, true)]))) (Sch.of [(5, true), (9, true), (10, false), (12, true)]))) (Sch.app [] (.br 5 8 (Sch.of [(8, true), (9, true), (10, false), (12, true)]) (Sch.of [(5, true), (9, true), (10, false), (12, true)]))))) (Sch.app [] (.br 2 11 (Sch.app [] (.br 5 11 (Sch.app [] (.br 9 11 (Sch.of [(10, false), (11, true), (12, true)]) (Sch.of [(9, true), (10, false), (12, true)]))) (Sch.of [(5, true), (9, true), (10, false), (12, true)]))) (Sch.of [(2, true), (5, true), (9, true), (10, false), (12, true)]))) (Sch.app [] (.br 2 8 (Sch.app [] (.br 5 8 (Sch.of [(8, true), (9, true), (10, false), (12, true)]) (Sch.of [(5, true), (9, true), (10, false), (12, true)]))) (Sch.of [(2, true), (5, true), (9, true), (10, false), (12, true)]))))) (by kernel_rfl) (by kernel_rfl) (fun _ d _ _ _ h => by cases d <;> exact h) (by kernel_rfl) (fun w65 e66 s67 => ?_)
      refine F.q (v := .pointer (some ⟨b2, 0, none⟩)) (hr := (r_field0 rfl (ev_any (by kernel_rfl)) (by kernel_rfl))) (h := ?_)
      refine F.ld (v := .int .i64 m) (hc := (sgS (blk_cell (j := 0) x6 (by kernel_rfl)) (Option.some_ne_none _))) (h := ?_)
      refine F.q (v := .pointer (some ⟨b2, 1, none⟩)) (hr := (r_field (k := 1) rfl (ev_any (by kernel_rfl)) (by kernel_rfl))) (h := ?_)
      refine F.ld (v := .slice A n c) (hc := (sgS (blk_cell (j := 1) x6 (by kernel_rfl)) (Option.some_ne_none _))) (h := ?_)
      refine F.mv (v := .int .i64 ((k2 : Nat) : Int)) (h := ?_)
      refine F.q (v := .agg #[.int .i64 x.id, .int .i64 x.fr, .int .i64 x.to, .int .i64 x.sz]) (hr := (r_load4 rfl (ev_any (by kernel_rfl)) (by kernel_rfl) (by kernel_rfl) (sgS (blk_cell (j := 0) x13 (by kernel_rfl)) (Option.some_ne_none _)) (sgS (blk_cell (j := 1) x13 (by kernel_rfl)) (Option.some_ne_none _)) (sgS (blk_cell (j := 2) x13 (by kernel_rfl)) (Option.some_ne_none _)) (sgS (blk_cell (j := 3) x13 (by kernel_rfl)) (Option.some_ne_none _)))) (h := ?_)
      refine W.sbr3 ?_ ?_ ?_
      · refine W.sn (fun b => .slice (some ⟨b, 0, none⟩) 0 0) #[] 50 s67 rfl (by kernel_rfl) rfl (fun _ => by kernel_rfl) (fun b68 w69 hb70 k71 x72 s73 => ?_)
        refine F.nx ?_
        have lo74 : w.heap.size ≤ b68 := Nat.le_trans ((SG.belowR c37 s67 (fun kq e => by cases e))).size (Nat.le_of_eq hb70)
        have ne75 : b2 ≠ b68 := Nat.ne_of_lt (Nat.lt_of_lt_of_eq (Nat.lt_of_lt_of_le (blk_lt x6) (s67).size) hb70)
        have ne76 : b9 ≠ b68 := Nat.ne_of_lt (Nat.lt_of_lt_of_eq (Nat.lt_of_lt_of_le (blk_lt x13) (s67).size) hb70)
        have ne77 : b17 ≠ b68 := Nat.ne_of_lt (Nat.lt_of_lt_of_eq (Nat.lt_of_lt_of_le (blk_lt x21) (s67).size) hb70)
        refine W.sbr3 ?_ ?_ ?_
        · have ho78 := own_empty (base := w.heap.size) (size := 4) x72 lo74
          replace ho78 : World.ownsRow _ _ _ _ _ _ (pipesV []) := ho78
          have nb79 : Nb b2 (.slice (some ⟨b68, 0, none⟩) 0 0) := nb_new ne75
          have nb80 : Nb b9 (.slice (some ⟨b68, 0, none⟩) 0 0) := nb_new ne76
          have nb81 : Nb b17 (.slice (some ⟨b68, 0, none⟩) 0 0) := nb_new ne77
          replace ho78 : World.ownsRow _ _ _ _ _ _ (pipesV []) := ho78
          refine W.sapR (e := 50) (size := 4) (base := w.heap.size) (v := .slice (some ⟨b68, 0, none⟩) 0 0) (A := A) (m := n) (c := c) s73 rfl rfl rfl rfl (by kernel_rfl) (by kernel_rfl) (by kernel_rfl) ho78 (Rd.kept ha (SG.belowR c37 s73 (fun kq e => by cases e))) hf (pipes_one _) (by omega) (by have := ((SG.belowR c37 s73 (fun kq e => by cases e))).size; omega) (.inr (fun kq e => by have := (s67).size; have := hb70; have e' := Option.some.inj e; simp at e'; omega)) (fun A82 cap83 w84 ho85 hg86 hat87 s88 => ?_)
          refine F.nx ?_
          have nb89 : Nb b2 (.slice A82 (0 + n) cap83) := nb_app2 nb79 (Nat.lt_of_lt_of_le (blk_lt x6) (s73).size) hat87
          have nb90 : Nb b9 (.slice A82 (0 + n) cap83) := nb_app2 nb80 (Nat.lt_of_lt_of_le (blk_lt x13) (s73).size) hat87
          have nb91 : Nb b17 (.slice A82 (0 + n) cap83) := nb_app2 nb81 (Nat.lt_of_lt_of_le (blk_lt x21) (s73).size) hat87
          have ho85 := own_joinP ho85
          have fr92 : ∀ kq, (.slice A82 (0 + n) cap83 : Value).ownBlock = some kq → wlj1.heap.size ≤ kq := fun kq e => by
            have hs := (s73).size
            rcases hat87 with h | h
            · exact (show ∀ kq, Value.ownBlock _ = some kq → wlj1.heap.size ≤ kq from (fun kq e => by have := (s67).size; have := hb70; have e' := Option.some.inj e; simp at e'; omega)) kq (h.symm.trans e)
            · have := Option.some.inj (h.symm.trans e); omega
          refine W.sbr ?_ ?_
          · refine W.sn (fun b => .slice (some ⟨b, 0, none⟩) 1 1) #[.int .i64 x.id, .int .i64 x.fr, .int .i64 x.to, .int .i64 x.sz] 50 s88 rfl (by kernel_rfl) rfl (fun _ => by kernel_rfl) (fun b93 w94 hb95 k96 x97 s98 => ?_)
            refine F.nx ?_
            have lo99 : w.heap.size ≤ b93 := Nat.le_trans ((SG.belowR c37 s88 (fun kq e => by cases e))).size (Nat.le_of_eq hb95)
            have ne100 : b2 ≠ b93 := Nat.ne_of_lt (Nat.lt_of_lt_of_eq (Nat.lt_of_lt_of_le (blk_lt x6) (s88).size) hb95)
            have ne101 : b9 ≠ b93 := Nat.ne_of_lt (Nat.lt_of_lt_of_eq (Nat.lt_of_lt_of_le (blk_lt x13) (s88).size) hb95)
            have ne102 : b17 ≠ b93 := Nat.ne_of_lt (Nat.lt_of_lt_of_eq (Nat.lt_of_lt_of_le (blk_lt x21) (s88).size) hb95)
            have nb103 : Nb b93 (.slice A82 (0 + n) cap83) := nb_hi ho85 (Nat.le_of_eq hb95)
            have ho104 := own_kept ho85 k96
            refine W.sbr ?_ ?_
            · refine W.sc (vs := [.slice A82 (0 + n) cap83, .int .i64 ((k2 : Nat) : Int), .slice (some ⟨b93, 0, none⟩) 1 1]) rfl rfl (by kernel_rfl) (by kernel_rfl) (by kernel_rfl) rfl (InsertP_any A82 (0 + n) cap83 k2 b93 w.heap.size ([] ++ ps) x _ ((SG.belowR c37 s98 (fun kq e => by cases e))).size ho104 (by rcases hat87 with h | h <;> rw [h] <;> simp [Value.ownBlock]) x97 nb103 (by omega) (by omega)) ?_
              rintro e w108 ⟨A105, c106, rfl, ho110, g109, hat112⟩
              have s111 := SG.of_grown s98 g109 (.inr fr92)
              refine ⟨_, rfl, s111, ?_⟩
              refine F.nx ?_
              have nb113 : Nb b2 (.slice A105 ((0 + n) + 1) c106) := nb_app3 (v := .slice A82 (0 + n) cap83) nb89 (Nat.lt_of_lt_of_le (blk_lt x6) (s98).size) hat112
              have nb114 : Nb b9 (.slice A105 ((0 + n) + 1) c106) := nb_app3 (v := .slice A82 (0 + n) cap83) nb90 (Nat.lt_of_lt_of_le (blk_lt x13) (s98).size) hat112
              have nb115 : Nb b17 (.slice A105 ((0 + n) + 1) c106) := nb_app3 (v := .slice A82 (0 + n) cap83) nb91 (Nat.lt_of_lt_of_le (blk_lt x21) (s98).size) hat112
              have nb116 : Nb b93 (.slice A105 ((0 + n) + 1) c106) := nb_app3 (v := .slice A82 (0 + n) cap83) nb103 (blk_lt x97) hat112
              have x97 := (g109.block _ (blk_lt x97) nb103).trans x97
              have fr117 : ∀ kq, (.slice A105 ((0 + n) + 1) c106 : Value).ownBlock = some kq → wlj1.heap.size ≤ kq := fun kq e => by
                have hs := (s98).size
                rcases (show (.slice A105 ((0 + n) + 1) c106 : Value).ownBlock = (.slice A82 (0 + n) cap83 : Value).ownBlock ∨ ∀ k9, (.slice A105 ((0 + n) + 1) c106 : Value).ownBlock = some k9 → w94.heap.size ≤ k9 from hat112) with h | h
                · exact (show ∀ kq, (.slice A82 (0 + n) cap83 : Value).ownBlock = some kq → wlj1.heap.size ≤ kq from fr92) kq (by rw [← h]; exact e)
                · have := h kq e; omega
              refine F.q (v := .agg #[.int .i64 m, .slice A105 ((0 + n) + 1) c106]) (hr := (r_build rfl (vs := [(0, .int .i64 m), (1, .slice A105 ((0 + n) + 1) c106)]) (by kernel_rfl) (by kernel_rfl))) (h := ?_)
              refine W.sn (fun b => .pointer (some ⟨b, 0, none⟩)) #[.int .i64 0, .slice none 0 0] 29 s111 rfl (by kernel_rfl) rfl (fun _ => by kernel_rfl) (fun b118 w119 hb120 k121 x122 s123 => ?_)
              refine F.nx ?_
              have lo124 : w.heap.size ≤ b118 := Nat.le_trans ((SG.belowR c37 s111 (fun kq e => by cases e))).size (Nat.le_of_eq hb120)
              have ne125 : b2 ≠ b118 := Nat.ne_of_lt (Nat.lt_of_lt_of_eq (Nat.lt_of_lt_of_le (blk_lt x6) (s111).size) hb120)
              have ne126 : b9 ≠ b118 := Nat.ne_of_lt (Nat.lt_of_lt_of_eq (Nat.lt_of_lt_of_le (blk_lt x13) (s111).size) hb120)
              have ne127 : b17 ≠ b118 := Nat.ne_of_lt (Nat.lt_of_lt_of_eq (Nat.lt_of_lt_of_le (blk_lt x21) (s111).size) hb120)
              have ne128 : b93 ≠ b118 := Nat.ne_of_lt (Nat.lt_of_lt_of_eq (blk_lt x97) hb120)
              have nb129 : Nb b118 (.slice A105 ((0 + n) + 1) c106) := nb_hi ho110 (Nat.le_of_eq hb120)
              have x97 := (k121.block _ (blk_lt x97)).trans x97
              have ho130 := own_kept ho110 k121
              refine W.ss (v := .agg #[.int .i64 m, .slice A105 ((0 + n) + 1) c106]) (j := 0) (news := [.int .i64 m, .slice A105 ((0 + n) + 1) c106]) (cs' := #[.int .i64 m, .slice A105 ((0 + n) + 1) c106]) s123 rfl (by kernel_rfl) rfl rfl (by kernel_rfl) (by kernel_rfl) x122 (by kernel_rfl) (by kernel_rfl) (by simp) (by kernel_rfl) (by kernel_rfl) (.inr (Nat.le_trans (s111).size (Nat.le_of_eq hb120))) (fun w131 g132 x133 s134 => ?_)
              have x97 := (g132.block _ (blk_lt x97) (fun e9 => ne128 (Option.some.inj e9))).trans x97
              have ho135 := own_grown ho130 g132 (fun j e1 e2 => by cases e2; exact nb129 e1.symm)
              refine F.endF [(2, .pointer (some ⟨b2, 0, none⟩)), (3, .pointer (some ⟨b9, 0, none⟩)), (4, .pointer (some ⟨b17, 0, none⟩)), (5, .bool false), (6, .int .i64 ((k2 : Nat) : Int)), (7, .pointer (some ⟨b118, 0, none⟩))] (fun U136 => ?_)
              have x6 := SG.blk s134 x6 (Option.some_ne_none _)
              have x13 := SG.blk s134 x13 (Option.some_ne_none _)
              have x21 := SG.blk s134 x21 (Option.some_ne_none _)
              have c137 := (SG.belowR c37 s134 (fun kq e => by cases e))
              exact h9 0 _ _ ⟨A105, ((0 + n) + 1), c106, b118, (fun iU9 => lk [(2, .pointer (some ⟨b2, 0, none⟩)), (3, .pointer (some ⟨b9, 0, none⟩)), (4, .pointer (some ⟨b17, 0, none⟩)), (5, .bool false), (6, .int .i64 ((k2 : Nat) : Int)), (7, .pointer (some ⟨b118, 0, none⟩))] iU9 (U136 iU9)), (by kernel_rfl), x6, x13, x21, x133, lo124, ho135, by omega, nb113, nb114, nb115, nb129, ne125, ne126, ne127, c137⟩
            · refine W.sn (fun b => .pointer (some ⟨b, 0, none⟩)) #[.int .i64 0, .slice none 0 0] 29 s98 rfl (by kernel_rfl) rfl (fun _ => by kernel_rfl) (fun b138 w139 hb140 k141 x142 s143 => ?_)
              refine F.nx ?_
              have lo144 : w.heap.size ≤ b138 := Nat.le_trans ((SG.belowR c37 s98 (fun kq e => by cases e))).size (Nat.le_of_eq hb140)
              have ne145 : b2 ≠ b138 := Nat.ne_of_lt (Nat.lt_of_lt_of_eq (Nat.lt_of_lt_of_le (blk_lt x6) (s98).size) hb140)
              have ne146 : b9 ≠ b138 := Nat.ne_of_lt (Nat.lt_of_lt_of_eq (Nat.lt_of_lt_of_le (blk_lt x13) (s98).size) hb140)
              have ne147 : b17 ≠ b138 := Nat.ne_of_lt (Nat.lt_of_lt_of_eq (Nat.lt_of_lt_of_le (blk_lt x21) (s98).size) hb140)
              have ne148 : b93 ≠ b138 := Nat.ne_of_lt (Nat.lt_of_lt_of_eq (blk_lt x97) hb140)
              have nb149 : Nb b138 (.slice A82 (0 + n) cap83) := nb_hi ho104 (Nat.le_of_eq hb140)
              have x97 := (k141.block _ (blk_lt x97)).trans x97
              have ho150 := own_kept ho104 k141
              refine W.sc (vs := [.slice A82 (0 + n) cap83, .int .i64 ((k2 : Nat) : Int), .slice (some ⟨b93, 0, none⟩) 1 1]) rfl rfl (by kernel_rfl) (by kernel_rfl) (by kernel_rfl) rfl (InsertP_any A82 (0 + n) cap83 k2 b93 w.heap.size ([] ++ ps) x _ ((SG.belowR c37 s143 (fun kq e => by cases e))).size ho150 (by rcases hat87 with h | h <;> rw [h] <;> simp [Value.ownBlock]) x97 nb103 (by omega) (by omega)) ?_
              rintro e w154 ⟨A151, c152, rfl, ho156, g155, hat158⟩
              have s157 := SG.of_grown s143 g155 (.inr fr92)
              refine ⟨_, rfl, s157, ?_⟩
              refine F.nx ?_
              have nb159 : Nb b2 (.slice A151 ((0 + n) + 1) c152) := nb_app3 (v := .slice A82 (0 + n) cap83) nb89 (Nat.lt_of_lt_of_le (blk_lt x6) (s143).size) hat158
              have nb160 : Nb b9 (.slice A151 ((0 + n) + 1) c152) := nb_app3 (v := .slice A82 (0 + n) cap83) nb90 (Nat.lt_of_lt_of_le (blk_lt x13) (s143).size) hat158
              have nb161 : Nb b17 (.slice A151 ((0 + n) + 1) c152) := nb_app3 (v := .slice A82 (0 + n) cap83) nb91 (Nat.lt_of_lt_of_le (blk_lt x21) (s143).size) hat158
              have nb162 : Nb b93 (.slice A151 ((0 + n) + 1) c152) := nb_app3 (v := .slice A82 (0 + n) cap83) nb103 (blk_lt x97) hat158
              have x97 := (g155.block _ (blk_lt x97) nb103).trans x97
              have nb163 : Nb b138 (.slice A151 ((0 + n) + 1) c152) := nb_app3 (v := .slice A82 (0 + n) cap83) nb149 (blk_lt x142) hat158
              have x142 := (g155.block _ (blk_lt x142) nb149).trans x142
              have fr164 : ∀ kq, (.slice A151 ((0 + n) + 1) c152 : Value).ownBlock = some kq → wlj1.heap.size ≤ kq := fun kq e => by
                have hs := (s143).size
                rcases (show (.slice A151 ((0 + n) + 1) c152 : Value).ownBlock = (.slice A82 (0 + n) cap83 : Value).ownBlock ∨ ∀ k9, (.slice A151 ((0 + n) + 1) c152 : Value).ownBlock = some k9 → w139.heap.size ≤ k9 from hat158) with h | h
                · exact (show ∀ kq, (.slice A82 (0 + n) cap83 : Value).ownBlock = some kq → wlj1.heap.size ≤ kq from fr92) kq (by rw [← h]; exact e)
                · have := h kq e; omega
              refine F.q (v := .agg #[.int .i64 m, .slice A151 ((0 + n) + 1) c152]) (hr := (r_build rfl (vs := [(0, .int .i64 m), (1, .slice A151 ((0 + n) + 1) c152)]) (by kernel_rfl) (by kernel_rfl))) (h := ?_)
              refine W.ss (v := .agg #[.int .i64 m, .slice A151 ((0 + n) + 1) c152]) (j := 0) (news := [.int .i64 m, .slice A151 ((0 + n) + 1) c152]) (cs' := #[.int .i64 m, .slice A151 ((0 + n) + 1) c152]) s157 rfl (by kernel_rfl) rfl rfl (by kernel_rfl) (by kernel_rfl) x142 (by kernel_rfl) (by kernel_rfl) (by simp) (by kernel_rfl) (by kernel_rfl) (.inr (Nat.le_trans (s98).size (Nat.le_of_eq hb140))) (fun w165 g166 x167 s168 => ?_)
              have x97 := (g166.block _ (blk_lt x97) (fun e9 => ne148 (Option.some.inj e9))).trans x97
              have ho169 := own_grown ho156 g166 (fun j e1 e2 => by cases e2; exact nb163 e1.symm)
              refine F.endF [(2, .pointer (some ⟨b2, 0, none⟩)), (3, .pointer (some ⟨b9, 0, none⟩)), (4, .pointer (some ⟨b17, 0, none⟩)), (5, .bool false), (6, .int .i64 ((k2 : Nat) : Int)), (7, .pointer (some ⟨b138, 0, none⟩))] (fun U170 => ?_)
              have x6 := SG.blk s168 x6 (Option.some_ne_none _)
              have x13 := SG.blk s168 x13 (Option.some_ne_none _)
              have x21 := SG.blk s168 x21 (Option.some_ne_none _)
              have c171 := (SG.belowR c37 s168 (fun kq e => by cases e))
              exact h9 0 _ _ ⟨A151, ((0 + n) + 1), c152, b138, (fun iU9 => lk [(2, .pointer (some ⟨b2, 0, none⟩)), (3, .pointer (some ⟨b9, 0, none⟩)), (4, .pointer (some ⟨b17, 0, none⟩)), (5, .bool false), (6, .int .i64 ((k2 : Nat) : Int)), (7, .pointer (some ⟨b138, 0, none⟩))] iU9 (U170 iU9)), (by kernel_rfl), x6, x13, x21, x167, lo144, ho169, by omega, nb159, nb160, nb161, nb163, ne145, ne146, ne147, c171⟩
          · refine W.sn (fun b => .pointer (some ⟨b, 0, none⟩)) #[.int .i64 0, .slice none 0 0] 29 s88 rfl (by kernel_rfl) rfl (fun _ => by kernel_rfl) (fun b172 w173 hb174 k175 x176 s177 => ?_)
            refine F.nx ?_
            have lo178 : w.heap.size ≤ b172 := Nat.le_trans ((SG.belowR c37 s88 (fun kq e => by cases e))).size (Nat.le_of_eq hb174)
            have ne179 : b2 ≠ b172 := Nat.ne_of_lt (Nat.lt_of_lt_of_eq (Nat.lt_of_lt_of_le (blk_lt x6) (s88).size) hb174)
            have ne180 : b9 ≠ b172 := Nat.ne_of_lt (Nat.lt_of_lt_of_eq (Nat.lt_of_lt_of_le (blk_lt x13) (s88).size) hb174)
            have ne181 : b17 ≠ b172 := Nat.ne_of_lt (Nat.lt_of_lt_of_eq (Nat.lt_of_lt_of_le (blk_lt x21) (s88).size) hb174)
            have nb182 : Nb b172 (.slice A82 (0 + n) cap83) := nb_hi ho85 (Nat.le_of_eq hb174)
            have ho183 := own_kept ho85 k175
            refine W.sn (fun b => .slice (some ⟨b, 0, none⟩) 1 1) #[.int .i64 x.id, .int .i64 x.fr, .int .i64 x.to, .int .i64 x.sz] 50 s177 rfl (by kernel_rfl) rfl (fun _ => by kernel_rfl) (fun b184 w185 hb186 k187 x188 s189 => ?_)
            refine F.nx ?_
            have lo190 : w.heap.size ≤ b184 := Nat.le_trans ((SG.belowR c37 s177 (fun kq e => by cases e))).size (Nat.le_of_eq hb186)
            have ne191 : b2 ≠ b184 := Nat.ne_of_lt (Nat.lt_of_lt_of_eq (Nat.lt_of_lt_of_le (blk_lt x6) (s177).size) hb186)
            have ne192 : b9 ≠ b184 := Nat.ne_of_lt (Nat.lt_of_lt_of_eq (Nat.lt_of_lt_of_le (blk_lt x13) (s177).size) hb186)
            have ne193 : b17 ≠ b184 := Nat.ne_of_lt (Nat.lt_of_lt_of_eq (Nat.lt_of_lt_of_le (blk_lt x21) (s177).size) hb186)
            have ne194 : b172 ≠ b184 := Nat.ne_of_lt (Nat.lt_of_lt_of_eq (blk_lt x176) hb186)
            have nb195 : Nb b184 (.slice A82 (0 + n) cap83) := nb_hi ho183 (Nat.le_of_eq hb186)
            have x176 := (k187.block _ (blk_lt x176)).trans x176
            have ho196 := own_kept ho183 k187
            refine W.sc (vs := [.slice A82 (0 + n) cap83, .int .i64 ((k2 : Nat) : Int), .slice (some ⟨b184, 0, none⟩) 1 1]) rfl rfl (by kernel_rfl) (by kernel_rfl) (by kernel_rfl) rfl (InsertP_any A82 (0 + n) cap83 k2 b184 w.heap.size ([] ++ ps) x _ ((SG.belowR c37 s189 (fun kq e => by cases e))).size ho196 (by rcases hat87 with h | h <;> rw [h] <;> simp [Value.ownBlock]) x188 nb195 (by omega) (by omega)) ?_
            rintro e w200 ⟨A197, c198, rfl, ho202, g201, hat204⟩
            have s203 := SG.of_grown s189 g201 (.inr fr92)
            refine ⟨_, rfl, s203, ?_⟩
            refine F.nx ?_
            have nb205 : Nb b2 (.slice A197 ((0 + n) + 1) c198) := nb_app3 (v := .slice A82 (0 + n) cap83) nb89 (Nat.lt_of_lt_of_le (blk_lt x6) (s189).size) hat204
            have nb206 : Nb b9 (.slice A197 ((0 + n) + 1) c198) := nb_app3 (v := .slice A82 (0 + n) cap83) nb90 (Nat.lt_of_lt_of_le (blk_lt x13) (s189).size) hat204
            have nb207 : Nb b17 (.slice A197 ((0 + n) + 1) c198) := nb_app3 (v := .slice A82 (0 + n) cap83) nb91 (Nat.lt_of_lt_of_le (blk_lt x21) (s189).size) hat204
            have nb208 : Nb b172 (.slice A197 ((0 + n) + 1) c198) := nb_app3 (v := .slice A82 (0 + n) cap83) nb182 (blk_lt x176) hat204
            have x176 := (g201.block _ (blk_lt x176) nb182).trans x176
            have nb209 : Nb b184 (.slice A197 ((0 + n) + 1) c198) := nb_app3 (v := .slice A82 (0 + n) cap83) nb195 (blk_lt x188) hat204
            have x188 := (g201.block _ (blk_lt x188) nb195).trans x188
            have fr210 : ∀ kq, (.slice A197 ((0 + n) + 1) c198 : Value).ownBlock = some kq → wlj1.heap.size ≤ kq := fun kq e => by
              have hs := (s189).size
              rcases (show (.slice A197 ((0 + n) + 1) c198 : Value).ownBlock = (.slice A82 (0 + n) cap83 : Value).ownBlock ∨ ∀ k9, (.slice A197 ((0 + n) + 1) c198 : Value).ownBlock = some k9 → w185.heap.size ≤ k9 from hat204) with h | h
              · exact (show ∀ kq, (.slice A82 (0 + n) cap83 : Value).ownBlock = some kq → wlj1.heap.size ≤ kq from fr92) kq (by rw [← h]; exact e)
              · have := h kq e; omega
            refine F.q (v := .agg #[.int .i64 m, .slice A197 ((0 + n) + 1) c198]) (hr := (r_build rfl (vs := [(0, .int .i64 m), (1, .slice A197 ((0 + n) + 1) c198)]) (by kernel_rfl) (by kernel_rfl))) (h := ?_)
            refine W.ss (v := .agg #[.int .i64 m, .slice A197 ((0 + n) + 1) c198]) (j := 0) (news := [.int .i64 m, .slice A197 ((0 + n) + 1) c198]) (cs' := #[.int .i64 m, .slice A197 ((0 + n) + 1) c198]) s203 rfl (by kernel_rfl) rfl rfl (by kernel_rfl) (by kernel_rfl) x176 (by kernel_rfl) (by kernel_rfl) (by simp) (by kernel_rfl) (by kernel_rfl) (.inr (Nat.le_trans (s88).size (Nat.le_of_eq hb174))) (fun w211 g212 x213 s214 => ?_)
            have x188 := (g212.block _ (blk_lt x188) (fun e9 => ne194 (Option.some.inj e9).symm)).trans x188
            have ho215 := own_grown ho202 g212 (fun j e1 e2 => by cases e2; exact nb208 e1.symm)
            refine F.endF [(2, .pointer (some ⟨b2, 0, none⟩)), (3, .pointer (some ⟨b9, 0, none⟩)), (4, .pointer (some ⟨b17, 0, none⟩)), (5, .bool false), (6, .int .i64 ((k2 : Nat) : Int)), (7, .pointer (some ⟨b172, 0, none⟩))] (fun U216 => ?_)
            have x6 := SG.blk s214 x6 (Option.some_ne_none _)
            have x13 := SG.blk s214 x13 (Option.some_ne_none _)
            have x21 := SG.blk s214 x21 (Option.some_ne_none _)
            have c217 := (SG.belowR c37 s214 (fun kq e => by cases e))
            exact h9 0 _ _ ⟨A197, ((0 + n) + 1), c198, b172, (fun iU9 => lk [(2, .pointer (some ⟨b2, 0, none⟩)), (3, .pointer (some ⟨b9, 0, none⟩)), (4, .pointer (some ⟨b17, 0, none⟩)), (5, .bool false), (6, .int .i64 ((k2 : Nat) : Int)), (7, .pointer (some ⟨b172, 0, none⟩))] iU9 (U216 iU9)), (by kernel_rfl), x6, x13, x21, x213, lo178, ho215, by omega, nb205, nb206, nb207, nb208, ne179, ne180, ne181, c217⟩
        · refine W.sn (fun b => .slice (some ⟨b, 0, none⟩) 1 1) #[.int .i64 x.id, .int .i64 x.fr, .int .i64 x.to, .int .i64 x.sz] 50 s73 rfl (by kernel_rfl) rfl (fun _ => by kernel_rfl) (fun b218 w219 hb220 k221 x222 s223 => ?_)
          refine F.nx ?_
          have lo224 : w.heap.size ≤ b218 := Nat.le_trans ((SG.belowR c37 s73 (fun kq e => by cases e))).size (Nat.le_of_eq hb220)
          have ne225 : b2 ≠ b218 := Nat.ne_of_lt (Nat.lt_of_lt_of_eq (Nat.lt_of_lt_of_le (blk_lt x6) (s73).size) hb220)
          have ne226 : b9 ≠ b218 := Nat.ne_of_lt (Nat.lt_of_lt_of_eq (Nat.lt_of_lt_of_le (blk_lt x13) (s73).size) hb220)
          have ne227 : b17 ≠ b218 := Nat.ne_of_lt (Nat.lt_of_lt_of_eq (Nat.lt_of_lt_of_le (blk_lt x21) (s73).size) hb220)
          have ne228 : b68 ≠ b218 := Nat.ne_of_lt (Nat.lt_of_lt_of_eq (blk_lt x72) hb220)
          have x72 := (k221.block _ (blk_lt x72)).trans x72
          refine W.sbr ?_ ?_
          · have ho229 := own_empty (base := w.heap.size) (size := 4) x72 lo74
            replace ho229 : World.ownsRow _ _ _ _ _ _ (pipesV []) := ho229
            have nb230 : Nb b2 (.slice (some ⟨b68, 0, none⟩) 0 0) := nb_new ne75
            have nb231 : Nb b9 (.slice (some ⟨b68, 0, none⟩) 0 0) := nb_new ne76
            have nb232 : Nb b17 (.slice (some ⟨b68, 0, none⟩) 0 0) := nb_new ne77
            have nb233 : Nb b218 (.slice (some ⟨b68, 0, none⟩) 0 0) := nb_new (Ne.symm ne228)
            replace ho229 : World.ownsRow _ _ _ _ _ _ (pipesV []) := ho229
            refine W.sapR (e := 50) (size := 4) (base := w.heap.size) (v := .slice (some ⟨b68, 0, none⟩) 0 0) (A := A) (m := n) (c := c) s223 rfl rfl rfl rfl (by kernel_rfl) (by kernel_rfl) (by kernel_rfl) ho229 (Rd.kept ha (SG.belowR c37 s223 (fun kq e => by cases e))) hf (pipes_one _) (by omega) (by have := ((SG.belowR c37 s223 (fun kq e => by cases e))).size; omega) (.inr (fun kq e => by have := (s67).size; have := hb70; have e' := Option.some.inj e; simp at e'; omega)) (fun A234 cap235 w236 ho237 hg238 hat239 s240 => ?_)
            refine F.nx ?_
            have nb241 : Nb b2 (.slice A234 (0 + n) cap235) := nb_app2 nb230 (Nat.lt_of_lt_of_le (blk_lt x6) (s223).size) hat239
            have nb242 : Nb b9 (.slice A234 (0 + n) cap235) := nb_app2 nb231 (Nat.lt_of_lt_of_le (blk_lt x13) (s223).size) hat239
            have nb243 : Nb b17 (.slice A234 (0 + n) cap235) := nb_app2 nb232 (Nat.lt_of_lt_of_le (blk_lt x21) (s223).size) hat239
            have nb244 : Nb b218 (.slice A234 (0 + n) cap235) := nb_app2 nb233 (blk_lt x222) hat239
            have x222 := (hg238.block _ (blk_lt x222) nb233).trans x222
            have ho237 := own_joinP ho237
            have fr245 : ∀ kq, (.slice A234 (0 + n) cap235 : Value).ownBlock = some kq → wlj1.heap.size ≤ kq := fun kq e => by
              have hs := (s223).size
              rcases hat239 with h | h
              · exact (show ∀ kq, Value.ownBlock _ = some kq → wlj1.heap.size ≤ kq from (fun kq e => by have := (s67).size; have := hb70; have e' := Option.some.inj e; simp at e'; omega)) kq (h.symm.trans e)
              · have := Option.some.inj (h.symm.trans e); omega
            refine W.sbr ?_ ?_
            · refine W.sc (vs := [.slice A234 (0 + n) cap235, .int .i64 ((k2 : Nat) : Int), .slice (some ⟨b218, 0, none⟩) 1 1]) rfl rfl (by kernel_rfl) (by kernel_rfl) (by kernel_rfl) rfl (InsertP_any A234 (0 + n) cap235 k2 b218 w.heap.size ([] ++ ps) x _ ((SG.belowR c37 s240 (fun kq e => by cases e))).size ho237 (by rcases hat239 with h | h <;> rw [h] <;> simp [Value.ownBlock]) x222 nb244 (by omega) (by omega)) ?_
              rintro e w249 ⟨A246, c247, rfl, ho251, g250, hat253⟩
              have s252 := SG.of_grown s240 g250 (.inr fr245)
              refine ⟨_, rfl, s252, ?_⟩
              refine F.nx ?_
              have nb254 : Nb b2 (.slice A246 ((0 + n) + 1) c247) := nb_app3 (v := .slice A234 (0 + n) cap235) nb241 (Nat.lt_of_lt_of_le (blk_lt x6) (s240).size) hat253
              have nb255 : Nb b9 (.slice A246 ((0 + n) + 1) c247) := nb_app3 (v := .slice A234 (0 + n) cap235) nb242 (Nat.lt_of_lt_of_le (blk_lt x13) (s240).size) hat253
              have nb256 : Nb b17 (.slice A246 ((0 + n) + 1) c247) := nb_app3 (v := .slice A234 (0 + n) cap235) nb243 (Nat.lt_of_lt_of_le (blk_lt x21) (s240).size) hat253
              have nb257 : Nb b218 (.slice A246 ((0 + n) + 1) c247) := nb_app3 (v := .slice A234 (0 + n) cap235) nb244 (blk_lt x222) hat253
              have x222 := (g250.block _ (blk_lt x222) nb244).trans x222
              have fr258 : ∀ kq, (.slice A246 ((0 + n) + 1) c247 : Value).ownBlock = some kq → wlj1.heap.size ≤ kq := fun kq e => by
                have hs := (s240).size
                rcases (show (.slice A246 ((0 + n) + 1) c247 : Value).ownBlock = (.slice A234 (0 + n) cap235 : Value).ownBlock ∨ ∀ k9, (.slice A246 ((0 + n) + 1) c247 : Value).ownBlock = some k9 → w236.heap.size ≤ k9 from hat253) with h | h
                · exact (show ∀ kq, (.slice A234 (0 + n) cap235 : Value).ownBlock = some kq → wlj1.heap.size ≤ kq from fr245) kq (by rw [← h]; exact e)
                · have := h kq e; omega
              refine F.q (v := .agg #[.int .i64 m, .slice A246 ((0 + n) + 1) c247]) (hr := (r_build rfl (vs := [(0, .int .i64 m), (1, .slice A246 ((0 + n) + 1) c247)]) (by kernel_rfl) (by kernel_rfl))) (h := ?_)
              refine W.sn (fun b => .pointer (some ⟨b, 0, none⟩)) #[.int .i64 0, .slice none 0 0] 29 s252 rfl (by kernel_rfl) rfl (fun _ => by kernel_rfl) (fun b259 w260 hb261 k262 x263 s264 => ?_)
              refine F.nx ?_
              have lo265 : w.heap.size ≤ b259 := Nat.le_trans ((SG.belowR c37 s252 (fun kq e => by cases e))).size (Nat.le_of_eq hb261)
              have ne266 : b2 ≠ b259 := Nat.ne_of_lt (Nat.lt_of_lt_of_eq (Nat.lt_of_lt_of_le (blk_lt x6) (s252).size) hb261)
              have ne267 : b9 ≠ b259 := Nat.ne_of_lt (Nat.lt_of_lt_of_eq (Nat.lt_of_lt_of_le (blk_lt x13) (s252).size) hb261)
              have ne268 : b17 ≠ b259 := Nat.ne_of_lt (Nat.lt_of_lt_of_eq (Nat.lt_of_lt_of_le (blk_lt x21) (s252).size) hb261)
              have ne269 : b218 ≠ b259 := Nat.ne_of_lt (Nat.lt_of_lt_of_eq (blk_lt x222) hb261)
              have nb270 : Nb b259 (.slice A246 ((0 + n) + 1) c247) := nb_hi ho251 (Nat.le_of_eq hb261)
              have x222 := (k262.block _ (blk_lt x222)).trans x222
              have ho271 := own_kept ho251 k262
              refine W.ss (v := .agg #[.int .i64 m, .slice A246 ((0 + n) + 1) c247]) (j := 0) (news := [.int .i64 m, .slice A246 ((0 + n) + 1) c247]) (cs' := #[.int .i64 m, .slice A246 ((0 + n) + 1) c247]) s264 rfl (by kernel_rfl) rfl rfl (by kernel_rfl) (by kernel_rfl) x263 (by kernel_rfl) (by kernel_rfl) (by simp) (by kernel_rfl) (by kernel_rfl) (.inr (Nat.le_trans (s252).size (Nat.le_of_eq hb261))) (fun w272 g273 x274 s275 => ?_)
              have x222 := (g273.block _ (blk_lt x222) (fun e9 => ne269 (Option.some.inj e9))).trans x222
              have ho276 := own_grown ho271 g273 (fun j e1 e2 => by cases e2; exact nb270 e1.symm)
              refine F.endF [(2, .pointer (some ⟨b2, 0, none⟩)), (3, .pointer (some ⟨b9, 0, none⟩)), (4, .pointer (some ⟨b17, 0, none⟩)), (5, .bool false), (6, .int .i64 ((k2 : Nat) : Int)), (7, .pointer (some ⟨b259, 0, none⟩))] (fun U277 => ?_)
              have x6 := SG.blk s275 x6 (Option.some_ne_none _)
              have x13 := SG.blk s275 x13 (Option.some_ne_none _)
              have x21 := SG.blk s275 x21 (Option.some_ne_none _)
              have c278 := (SG.belowR c37 s275 (fun kq e => by cases e))
              exact h9 0 _ _ ⟨A246, ((0 + n) + 1), c247, b259, (fun iU9 => lk [(2, .pointer (some ⟨b2, 0, none⟩)), (3, .pointer (some ⟨b9, 0, none⟩)), (4, .pointer (some ⟨b17, 0, none⟩)), (5, .bool false), (6, .int .i64 ((k2 : Nat) : Int)), (7, .pointer (some ⟨b259, 0, none⟩))] iU9 (U277 iU9)), (by kernel_rfl), x6, x13, x21, x274, lo265, ho276, by omega, nb254, nb255, nb256, nb270, ne266, ne267, ne268, c278⟩
            · refine W.sn (fun b => .pointer (some ⟨b, 0, none⟩)) #[.int .i64 0, .slice none 0 0] 29 s240 rfl (by kernel_rfl) rfl (fun _ => by kernel_rfl) (fun b279 w280 hb281 k282 x283 s284 => ?_)
              refine F.nx ?_
              have lo285 : w.heap.size ≤ b279 := Nat.le_trans ((SG.belowR c37 s240 (fun kq e => by cases e))).size (Nat.le_of_eq hb281)
              have ne286 : b2 ≠ b279 := Nat.ne_of_lt (Nat.lt_of_lt_of_eq (Nat.lt_of_lt_of_le (blk_lt x6) (s240).size) hb281)
              have ne287 : b9 ≠ b279 := Nat.ne_of_lt (Nat.lt_of_lt_of_eq (Nat.lt_of_lt_of_le (blk_lt x13) (s240).size) hb281)
              have ne288 : b17 ≠ b279 := Nat.ne_of_lt (Nat.lt_of_lt_of_eq (Nat.lt_of_lt_of_le (blk_lt x21) (s240).size) hb281)
              have ne289 : b218 ≠ b279 := Nat.ne_of_lt (Nat.lt_of_lt_of_eq (blk_lt x222) hb281)
              have nb290 : Nb b279 (.slice A234 (0 + n) cap235) := nb_hi ho237 (Nat.le_of_eq hb281)
              have x222 := (k282.block _ (blk_lt x222)).trans x222
              have ho291 := own_kept ho237 k282
              refine W.sc (vs := [.slice A234 (0 + n) cap235, .int .i64 ((k2 : Nat) : Int), .slice (some ⟨b218, 0, none⟩) 1 1]) rfl rfl (by kernel_rfl) (by kernel_rfl) (by kernel_rfl) rfl (InsertP_any A234 (0 + n) cap235 k2 b218 w.heap.size ([] ++ ps) x _ ((SG.belowR c37 s284 (fun kq e => by cases e))).size ho291 (by rcases hat239 with h | h <;> rw [h] <;> simp [Value.ownBlock]) x222 nb244 (by omega) (by omega)) ?_
              rintro e w295 ⟨A292, c293, rfl, ho297, g296, hat299⟩
              have s298 := SG.of_grown s284 g296 (.inr fr245)
              refine ⟨_, rfl, s298, ?_⟩
              refine F.nx ?_
              have nb300 : Nb b2 (.slice A292 ((0 + n) + 1) c293) := nb_app3 (v := .slice A234 (0 + n) cap235) nb241 (Nat.lt_of_lt_of_le (blk_lt x6) (s284).size) hat299
              have nb301 : Nb b9 (.slice A292 ((0 + n) + 1) c293) := nb_app3 (v := .slice A234 (0 + n) cap235) nb242 (Nat.lt_of_lt_of_le (blk_lt x13) (s284).size) hat299
              have nb302 : Nb b17 (.slice A292 ((0 + n) + 1) c293) := nb_app3 (v := .slice A234 (0 + n) cap235) nb243 (Nat.lt_of_lt_of_le (blk_lt x21) (s284).size) hat299
              have nb303 : Nb b218 (.slice A292 ((0 + n) + 1) c293) := nb_app3 (v := .slice A234 (0 + n) cap235) nb244 (blk_lt x222) hat299
              have x222 := (g296.block _ (blk_lt x222) nb244).trans x222
              have nb304 : Nb b279 (.slice A292 ((0 + n) + 1) c293) := nb_app3 (v := .slice A234 (0 + n) cap235) nb290 (blk_lt x283) hat299
              have x283 := (g296.block _ (blk_lt x283) nb290).trans x283
              have fr305 : ∀ kq, (.slice A292 ((0 + n) + 1) c293 : Value).ownBlock = some kq → wlj1.heap.size ≤ kq := fun kq e => by
                have hs := (s284).size
                rcases (show (.slice A292 ((0 + n) + 1) c293 : Value).ownBlock = (.slice A234 (0 + n) cap235 : Value).ownBlock ∨ ∀ k9, (.slice A292 ((0 + n) + 1) c293 : Value).ownBlock = some k9 → w280.heap.size ≤ k9 from hat299) with h | h
                · exact (show ∀ kq, (.slice A234 (0 + n) cap235 : Value).ownBlock = some kq → wlj1.heap.size ≤ kq from fr245) kq (by rw [← h]; exact e)
                · have := h kq e; omega
              refine F.q (v := .agg #[.int .i64 m, .slice A292 ((0 + n) + 1) c293]) (hr := (r_build rfl (vs := [(0, .int .i64 m), (1, .slice A292 ((0 + n) + 1) c293)]) (by kernel_rfl) (by kernel_rfl))) (h := ?_)
              refine W.ss (v := .agg #[.int .i64 m, .slice A292 ((0 + n) + 1) c293]) (j := 0) (news := [.int .i64 m, .slice A292 ((0 + n) + 1) c293]) (cs' := #[.int .i64 m, .slice A292 ((0 + n) + 1) c293]) s298 rfl (by kernel_rfl) rfl rfl (by kernel_rfl) (by kernel_rfl) x283 (by kernel_rfl) (by kernel_rfl) (by simp) (by kernel_rfl) (by kernel_rfl) (.inr (Nat.le_trans (s240).size (Nat.le_of_eq hb281))) (fun w306 g307 x308 s309 => ?_)
              have x222 := (g307.block _ (blk_lt x222) (fun e9 => ne289 (Option.some.inj e9))).trans x222
              have ho310 := own_grown ho297 g307 (fun j e1 e2 => by cases e2; exact nb304 e1.symm)
              refine F.endF [(2, .pointer (some ⟨b2, 0, none⟩)), (3, .pointer (some ⟨b9, 0, none⟩)), (4, .pointer (some ⟨b17, 0, none⟩)), (5, .bool false), (6, .int .i64 ((k2 : Nat) : Int)), (7, .pointer (some ⟨b279, 0, none⟩))] (fun U311 => ?_)
              have x6 := SG.blk s309 x6 (Option.some_ne_none _)
              have x13 := SG.blk s309 x13 (Option.some_ne_none _)
              have x21 := SG.blk s309 x21 (Option.some_ne_none _)
              have c312 := (SG.belowR c37 s309 (fun kq e => by cases e))
              exact h9 0 _ _ ⟨A292, ((0 + n) + 1), c293, b279, (fun iU9 => lk [(2, .pointer (some ⟨b2, 0, none⟩)), (3, .pointer (some ⟨b9, 0, none⟩)), (4, .pointer (some ⟨b17, 0, none⟩)), (5, .bool false), (6, .int .i64 ((k2 : Nat) : Int)), (7, .pointer (some ⟨b279, 0, none⟩))] iU9 (U311 iU9)), (by kernel_rfl), x6, x13, x21, x308, lo285, ho310, by omega, nb300, nb301, nb302, nb304, ne286, ne287, ne288, c312⟩
          · refine W.sn (fun b => .pointer (some ⟨b, 0, none⟩)) #[.int .i64 0, .slice none 0 0] 29 s223 rfl (by kernel_rfl) rfl (fun _ => by kernel_rfl) (fun b313 w314 hb315 k316 x317 s318 => ?_)
            refine F.nx ?_
            have lo319 : w.heap.size ≤ b313 := Nat.le_trans ((SG.belowR c37 s223 (fun kq e => by cases e))).size (Nat.le_of_eq hb315)
            have ne320 : b2 ≠ b313 := Nat.ne_of_lt (Nat.lt_of_lt_of_eq (Nat.lt_of_lt_of_le (blk_lt x6) (s223).size) hb315)
            have ne321 : b9 ≠ b313 := Nat.ne_of_lt (Nat.lt_of_lt_of_eq (Nat.lt_of_lt_of_le (blk_lt x13) (s223).size) hb315)
            have ne322 : b17 ≠ b313 := Nat.ne_of_lt (Nat.lt_of_lt_of_eq (Nat.lt_of_lt_of_le (blk_lt x21) (s223).size) hb315)
            have ne323 : b68 ≠ b313 := Nat.ne_of_lt (Nat.lt_of_lt_of_eq (blk_lt x72) hb315)
            have ne324 : b218 ≠ b313 := Nat.ne_of_lt (Nat.lt_of_lt_of_eq (blk_lt x222) hb315)
            have x72 := (k316.block _ (blk_lt x72)).trans x72
            have x222 := (k316.block _ (blk_lt x222)).trans x222
            have ho325 := own_empty (base := w.heap.size) (size := 4) x72 lo74
            replace ho325 : World.ownsRow _ _ _ _ _ _ (pipesV []) := ho325
            have nb326 : Nb b2 (.slice (some ⟨b68, 0, none⟩) 0 0) := nb_new ne75
            have nb327 : Nb b9 (.slice (some ⟨b68, 0, none⟩) 0 0) := nb_new ne76
            have nb328 : Nb b17 (.slice (some ⟨b68, 0, none⟩) 0 0) := nb_new ne77
            have nb329 : Nb b218 (.slice (some ⟨b68, 0, none⟩) 0 0) := nb_new (Ne.symm ne228)
            have nb330 : Nb b313 (.slice (some ⟨b68, 0, none⟩) 0 0) := nb_new (Ne.symm ne323)
            replace ho325 : World.ownsRow _ _ _ _ _ _ (pipesV []) := ho325
            refine W.sapR (e := 50) (size := 4) (base := w.heap.size) (v := .slice (some ⟨b68, 0, none⟩) 0 0) (A := A) (m := n) (c := c) s318 rfl rfl rfl rfl (by kernel_rfl) (by kernel_rfl) (by kernel_rfl) ho325 (Rd.kept ha (SG.belowR c37 s318 (fun kq e => by cases e))) hf (pipes_one _) (by omega) (by have := ((SG.belowR c37 s318 (fun kq e => by cases e))).size; omega) (.inr (fun kq e => by have := (s67).size; have := hb70; have e' := Option.some.inj e; simp at e'; omega)) (fun A331 cap332 w333 ho334 hg335 hat336 s337 => ?_)
            refine F.nx ?_
            have nb338 : Nb b2 (.slice A331 (0 + n) cap332) := nb_app2 nb326 (Nat.lt_of_lt_of_le (blk_lt x6) (s318).size) hat336
            have nb339 : Nb b9 (.slice A331 (0 + n) cap332) := nb_app2 nb327 (Nat.lt_of_lt_of_le (blk_lt x13) (s318).size) hat336
            have nb340 : Nb b17 (.slice A331 (0 + n) cap332) := nb_app2 nb328 (Nat.lt_of_lt_of_le (blk_lt x21) (s318).size) hat336
            have nb341 : Nb b218 (.slice A331 (0 + n) cap332) := nb_app2 nb329 (blk_lt x222) hat336
            have x222 := (hg335.block _ (blk_lt x222) nb329).trans x222
            have nb342 : Nb b313 (.slice A331 (0 + n) cap332) := nb_app2 nb330 (blk_lt x317) hat336
            have x317 := (hg335.block _ (blk_lt x317) nb330).trans x317
            have ho334 := own_joinP ho334
            have fr343 : ∀ kq, (.slice A331 (0 + n) cap332 : Value).ownBlock = some kq → wlj1.heap.size ≤ kq := fun kq e => by
              have hs := (s318).size
              rcases hat336 with h | h
              · exact (show ∀ kq, Value.ownBlock _ = some kq → wlj1.heap.size ≤ kq from (fun kq e => by have := (s67).size; have := hb70; have e' := Option.some.inj e; simp at e'; omega)) kq (h.symm.trans e)
              · have := Option.some.inj (h.symm.trans e); omega
            refine W.sc (vs := [.slice A331 (0 + n) cap332, .int .i64 ((k2 : Nat) : Int), .slice (some ⟨b218, 0, none⟩) 1 1]) rfl rfl (by kernel_rfl) (by kernel_rfl) (by kernel_rfl) rfl (InsertP_any A331 (0 + n) cap332 k2 b218 w.heap.size ([] ++ ps) x _ ((SG.belowR c37 s337 (fun kq e => by cases e))).size ho334 (by rcases hat336 with h | h <;> rw [h] <;> simp [Value.ownBlock]) x222 nb341 (by omega) (by omega)) ?_
            rintro e w347 ⟨A344, c345, rfl, ho349, g348, hat351⟩
            have s350 := SG.of_grown s337 g348 (.inr fr343)
            refine ⟨_, rfl, s350, ?_⟩
            refine F.nx ?_
            have nb352 : Nb b2 (.slice A344 ((0 + n) + 1) c345) := nb_app3 (v := .slice A331 (0 + n) cap332) nb338 (Nat.lt_of_lt_of_le (blk_lt x6) (s337).size) hat351
            have nb353 : Nb b9 (.slice A344 ((0 + n) + 1) c345) := nb_app3 (v := .slice A331 (0 + n) cap332) nb339 (Nat.lt_of_lt_of_le (blk_lt x13) (s337).size) hat351
            have nb354 : Nb b17 (.slice A344 ((0 + n) + 1) c345) := nb_app3 (v := .slice A331 (0 + n) cap332) nb340 (Nat.lt_of_lt_of_le (blk_lt x21) (s337).size) hat351
            have nb355 : Nb b218 (.slice A344 ((0 + n) + 1) c345) := nb_app3 (v := .slice A331 (0 + n) cap332) nb341 (blk_lt x222) hat351
            have x222 := (g348.block _ (blk_lt x222) nb341).trans x222
            have nb356 : Nb b313 (.slice A344 ((0 + n) + 1) c345) := nb_app3 (v := .slice A331 (0 + n) cap332) nb342 (blk_lt x317) hat351
            have x317 := (g348.block _ (blk_lt x317) nb342).trans x317
            have fr357 : ∀ kq, (.slice A344 ((0 + n) + 1) c345 : Value).ownBlock = some kq → wlj1.heap.size ≤ kq := fun kq e => by
              have hs := (s337).size
              rcases (show (.slice A344 ((0 + n) + 1) c345 : Value).ownBlock = (.slice A331 (0 + n) cap332 : Value).ownBlock ∨ ∀ k9, (.slice A344 ((0 + n) + 1) c345 : Value).ownBlock = some k9 → w333.heap.size ≤ k9 from hat351) with h | h
              · exact (show ∀ kq, (.slice A331 (0 + n) cap332 : Value).ownBlock = some kq → wlj1.heap.size ≤ kq from fr343) kq (by rw [← h]; exact e)
              · have := h kq e; omega
            refine F.q (v := .agg #[.int .i64 m, .slice A344 ((0 + n) + 1) c345]) (hr := (r_build rfl (vs := [(0, .int .i64 m), (1, .slice A344 ((0 + n) + 1) c345)]) (by kernel_rfl) (by kernel_rfl))) (h := ?_)
            refine W.ss (v := .agg #[.int .i64 m, .slice A344 ((0 + n) + 1) c345]) (j := 0) (news := [.int .i64 m, .slice A344 ((0 + n) + 1) c345]) (cs' := #[.int .i64 m, .slice A344 ((0 + n) + 1) c345]) s350 rfl (by kernel_rfl) rfl rfl (by kernel_rfl) (by kernel_rfl) x317 (by kernel_rfl) (by kernel_rfl) (by simp) (by kernel_rfl) (by kernel_rfl) (.inr (Nat.le_trans (s223).size (Nat.le_of_eq hb315))) (fun w358 g359 x360 s361 => ?_)
            have x222 := (g359.block _ (blk_lt x222) (fun e9 => ne324 (Option.some.inj e9))).trans x222
            have ho362 := own_grown ho349 g359 (fun j e1 e2 => by cases e2; exact nb356 e1.symm)
            refine F.endF [(2, .pointer (some ⟨b2, 0, none⟩)), (3, .pointer (some ⟨b9, 0, none⟩)), (4, .pointer (some ⟨b17, 0, none⟩)), (5, .bool false), (6, .int .i64 ((k2 : Nat) : Int)), (7, .pointer (some ⟨b313, 0, none⟩))] (fun U363 => ?_)
            have x6 := SG.blk s361 x6 (Option.some_ne_none _)
            have x13 := SG.blk s361 x13 (Option.some_ne_none _)
            have x21 := SG.blk s361 x21 (Option.some_ne_none _)
            have c364 := (SG.belowR c37 s361 (fun kq e => by cases e))
            exact h9 0 _ _ ⟨A344, ((0 + n) + 1), c345, b313, (fun iU9 => lk [(2, .pointer (some ⟨b2, 0, none⟩)), (3, .pointer (some ⟨b9, 0, none⟩)), (4, .pointer (some ⟨b17, 0, none⟩)), (5, .bool false), (6, .int .i64 ((k2 : Nat) : Int)), (7, .pointer (some ⟨b313, 0, none⟩))] iU9 (U363 iU9)), (by kernel_rfl), x6, x13, x21, x360, lo319, ho362, by omega, nb352, nb353, nb354, nb356, ne320, ne321, ne322, c364⟩
        · refine W.sn (fun b => .pointer (some ⟨b, 0, none⟩)) #[.int .i64 0, .slice none 0 0] 29 s73 rfl (by kernel_rfl) rfl (fun _ => by kernel_rfl) (fun b365 w366 hb367 k368 x369 s370 => ?_)
          refine F.nx ?_
          have lo371 : w.heap.size ≤ b365 := Nat.le_trans ((SG.belowR c37 s73 (fun kq e => by cases e))).size (Nat.le_of_eq hb367)
          have ne372 : b2 ≠ b365 := Nat.ne_of_lt (Nat.lt_of_lt_of_eq (Nat.lt_of_lt_of_le (blk_lt x6) (s73).size) hb367)
          have ne373 : b9 ≠ b365 := Nat.ne_of_lt (Nat.lt_of_lt_of_eq (Nat.lt_of_lt_of_le (blk_lt x13) (s73).size) hb367)
          have ne374 : b17 ≠ b365 := Nat.ne_of_lt (Nat.lt_of_lt_of_eq (Nat.lt_of_lt_of_le (blk_lt x21) (s73).size) hb367)
          have ne375 : b68 ≠ b365 := Nat.ne_of_lt (Nat.lt_of_lt_of_eq (blk_lt x72) hb367)
          have x72 := (k368.block _ (blk_lt x72)).trans x72
          refine W.sbr ?_ ?_
          · have ho376 := own_empty (base := w.heap.size) (size := 4) x72 lo74
            replace ho376 : World.ownsRow _ _ _ _ _ _ (pipesV []) := ho376
            have nb377 : Nb b2 (.slice (some ⟨b68, 0, none⟩) 0 0) := nb_new ne75
            have nb378 : Nb b9 (.slice (some ⟨b68, 0, none⟩) 0 0) := nb_new ne76
            have nb379 : Nb b17 (.slice (some ⟨b68, 0, none⟩) 0 0) := nb_new ne77
            have nb380 : Nb b365 (.slice (some ⟨b68, 0, none⟩) 0 0) := nb_new (Ne.symm ne375)
            replace ho376 : World.ownsRow _ _ _ _ _ _ (pipesV []) := ho376
            refine W.sapR (e := 50) (size := 4) (base := w.heap.size) (v := .slice (some ⟨b68, 0, none⟩) 0 0) (A := A) (m := n) (c := c) s370 rfl rfl rfl rfl (by kernel_rfl) (by kernel_rfl) (by kernel_rfl) ho376 (Rd.kept ha (SG.belowR c37 s370 (fun kq e => by cases e))) hf (pipes_one _) (by omega) (by have := ((SG.belowR c37 s370 (fun kq e => by cases e))).size; omega) (.inr (fun kq e => by have := (s67).size; have := hb70; have e' := Option.some.inj e; simp at e'; omega)) (fun A381 cap382 w383 ho384 hg385 hat386 s387 => ?_)
            refine F.nx ?_
            have nb388 : Nb b2 (.slice A381 (0 + n) cap382) := nb_app2 nb377 (Nat.lt_of_lt_of_le (blk_lt x6) (s370).size) hat386
            have nb389 : Nb b9 (.slice A381 (0 + n) cap382) := nb_app2 nb378 (Nat.lt_of_lt_of_le (blk_lt x13) (s370).size) hat386
            have nb390 : Nb b17 (.slice A381 (0 + n) cap382) := nb_app2 nb379 (Nat.lt_of_lt_of_le (blk_lt x21) (s370).size) hat386
            have nb391 : Nb b365 (.slice A381 (0 + n) cap382) := nb_app2 nb380 (blk_lt x369) hat386
            have x369 := (hg385.block _ (blk_lt x369) nb380).trans x369
            have ho384 := own_joinP ho384
            have fr392 : ∀ kq, (.slice A381 (0 + n) cap382 : Value).ownBlock = some kq → wlj1.heap.size ≤ kq := fun kq e => by
              have hs := (s370).size
              rcases hat386 with h | h
              · exact (show ∀ kq, Value.ownBlock _ = some kq → wlj1.heap.size ≤ kq from (fun kq e => by have := (s67).size; have := hb70; have e' := Option.some.inj e; simp at e'; omega)) kq (h.symm.trans e)
              · have := Option.some.inj (h.symm.trans e); omega
            refine W.sn (fun b => .slice (some ⟨b, 0, none⟩) 1 1) #[.int .i64 x.id, .int .i64 x.fr, .int .i64 x.to, .int .i64 x.sz] 50 s387 rfl (by kernel_rfl) rfl (fun _ => by kernel_rfl) (fun b393 w394 hb395 k396 x397 s398 => ?_)
            refine F.nx ?_
            have lo399 : w.heap.size ≤ b393 := Nat.le_trans ((SG.belowR c37 s387 (fun kq e => by cases e))).size (Nat.le_of_eq hb395)
            have ne400 : b2 ≠ b393 := Nat.ne_of_lt (Nat.lt_of_lt_of_eq (Nat.lt_of_lt_of_le (blk_lt x6) (s387).size) hb395)
            have ne401 : b9 ≠ b393 := Nat.ne_of_lt (Nat.lt_of_lt_of_eq (Nat.lt_of_lt_of_le (blk_lt x13) (s387).size) hb395)
            have ne402 : b17 ≠ b393 := Nat.ne_of_lt (Nat.lt_of_lt_of_eq (Nat.lt_of_lt_of_le (blk_lt x21) (s387).size) hb395)
            have ne403 : b365 ≠ b393 := Nat.ne_of_lt (Nat.lt_of_lt_of_eq (blk_lt x369) hb395)
            have nb404 : Nb b393 (.slice A381 (0 + n) cap382) := nb_hi ho384 (Nat.le_of_eq hb395)
            have x369 := (k396.block _ (blk_lt x369)).trans x369
            have ho405 := own_kept ho384 k396
            refine W.sc (vs := [.slice A381 (0 + n) cap382, .int .i64 ((k2 : Nat) : Int), .slice (some ⟨b393, 0, none⟩) 1 1]) rfl rfl (by kernel_rfl) (by kernel_rfl) (by kernel_rfl) rfl (InsertP_any A381 (0 + n) cap382 k2 b393 w.heap.size ([] ++ ps) x _ ((SG.belowR c37 s398 (fun kq e => by cases e))).size ho405 (by rcases hat386 with h | h <;> rw [h] <;> simp [Value.ownBlock]) x397 nb404 (by omega) (by omega)) ?_
            rintro e w409 ⟨A406, c407, rfl, ho411, g410, hat413⟩
            have s412 := SG.of_grown s398 g410 (.inr fr392)
            refine ⟨_, rfl, s412, ?_⟩
            refine F.nx ?_
            have nb414 : Nb b2 (.slice A406 ((0 + n) + 1) c407) := nb_app3 (v := .slice A381 (0 + n) cap382) nb388 (Nat.lt_of_lt_of_le (blk_lt x6) (s398).size) hat413
            have nb415 : Nb b9 (.slice A406 ((0 + n) + 1) c407) := nb_app3 (v := .slice A381 (0 + n) cap382) nb389 (Nat.lt_of_lt_of_le (blk_lt x13) (s398).size) hat413
            have nb416 : Nb b17 (.slice A406 ((0 + n) + 1) c407) := nb_app3 (v := .slice A381 (0 + n) cap382) nb390 (Nat.lt_of_lt_of_le (blk_lt x21) (s398).size) hat413
            have nb417 : Nb b365 (.slice A406 ((0 + n) + 1) c407) := nb_app3 (v := .slice A381 (0 + n) cap382) nb391 (blk_lt x369) hat413
            have x369 := (g410.block _ (blk_lt x369) nb391).trans x369
            have nb418 : Nb b393 (.slice A406 ((0 + n) + 1) c407) := nb_app3 (v := .slice A381 (0 + n) cap382) nb404 (blk_lt x397) hat413
            have x397 := (g410.block _ (blk_lt x397) nb404).trans x397
            have fr419 : ∀ kq, (.slice A406 ((0 + n) + 1) c407 : Value).ownBlock = some kq → wlj1.heap.size ≤ kq := fun kq e => by
              have hs := (s398).size
              rcases (show (.slice A406 ((0 + n) + 1) c407 : Value).ownBlock = (.slice A381 (0 + n) cap382 : Value).ownBlock ∨ ∀ k9, (.slice A406 ((0 + n) + 1) c407 : Value).ownBlock = some k9 → w394.heap.size ≤ k9 from hat413) with h | h
              · exact (show ∀ kq, (.slice A381 (0 + n) cap382 : Value).ownBlock = some kq → wlj1.heap.size ≤ kq from fr392) kq (by rw [← h]; exact e)
              · have := h kq e; omega
            refine F.q (v := .agg #[.int .i64 m, .slice A406 ((0 + n) + 1) c407]) (hr := (r_build rfl (vs := [(0, .int .i64 m), (1, .slice A406 ((0 + n) + 1) c407)]) (by kernel_rfl) (by kernel_rfl))) (h := ?_)
            refine W.ss (v := .agg #[.int .i64 m, .slice A406 ((0 + n) + 1) c407]) (j := 0) (news := [.int .i64 m, .slice A406 ((0 + n) + 1) c407]) (cs' := #[.int .i64 m, .slice A406 ((0 + n) + 1) c407]) s412 rfl (by kernel_rfl) rfl rfl (by kernel_rfl) (by kernel_rfl) x369 (by kernel_rfl) (by kernel_rfl) (by simp) (by kernel_rfl) (by kernel_rfl) (.inr (Nat.le_trans (s73).size (Nat.le_of_eq hb367))) (fun w420 g421 x422 s423 => ?_)
            have x397 := (g421.block _ (blk_lt x397) (fun e9 => ne403 (Option.some.inj e9).symm)).trans x397
            have ho424 := own_grown ho411 g421 (fun j e1 e2 => by cases e2; exact nb417 e1.symm)
            refine F.endF [(2, .pointer (some ⟨b2, 0, none⟩)), (3, .pointer (some ⟨b9, 0, none⟩)), (4, .pointer (some ⟨b17, 0, none⟩)), (5, .bool false), (6, .int .i64 ((k2 : Nat) : Int)), (7, .pointer (some ⟨b365, 0, none⟩))] (fun U425 => ?_)
            have x6 := SG.blk s423 x6 (Option.some_ne_none _)
            have x13 := SG.blk s423 x13 (Option.some_ne_none _)
            have x21 := SG.blk s423 x21 (Option.some_ne_none _)
            have c426 := (SG.belowR c37 s423 (fun kq e => by cases e))
            exact h9 0 _ _ ⟨A406, ((0 + n) + 1), c407, b365, (fun iU9 => lk [(2, .pointer (some ⟨b2, 0, none⟩)), (3, .pointer (some ⟨b9, 0, none⟩)), (4, .pointer (some ⟨b17, 0, none⟩)), (5, .bool false), (6, .int .i64 ((k2 : Nat) : Int)), (7, .pointer (some ⟨b365, 0, none⟩))] iU9 (U425 iU9)), (by kernel_rfl), x6, x13, x21, x422, lo371, ho424, by omega, nb414, nb415, nb416, nb417, ne372, ne373, ne374, c426⟩
          · refine W.sn (fun b => .slice (some ⟨b, 0, none⟩) 1 1) #[.int .i64 x.id, .int .i64 x.fr, .int .i64 x.to, .int .i64 x.sz] 50 s370 rfl (by kernel_rfl) rfl (fun _ => by kernel_rfl) (fun b427 w428 hb429 k430 x431 s432 => ?_)
            refine F.nx ?_
            have lo433 : w.heap.size ≤ b427 := Nat.le_trans ((SG.belowR c37 s370 (fun kq e => by cases e))).size (Nat.le_of_eq hb429)
            have ne434 : b2 ≠ b427 := Nat.ne_of_lt (Nat.lt_of_lt_of_eq (Nat.lt_of_lt_of_le (blk_lt x6) (s370).size) hb429)
            have ne435 : b9 ≠ b427 := Nat.ne_of_lt (Nat.lt_of_lt_of_eq (Nat.lt_of_lt_of_le (blk_lt x13) (s370).size) hb429)
            have ne436 : b17 ≠ b427 := Nat.ne_of_lt (Nat.lt_of_lt_of_eq (Nat.lt_of_lt_of_le (blk_lt x21) (s370).size) hb429)
            have ne437 : b68 ≠ b427 := Nat.ne_of_lt (Nat.lt_of_lt_of_eq (blk_lt x72) hb429)
            have ne438 : b365 ≠ b427 := Nat.ne_of_lt (Nat.lt_of_lt_of_eq (blk_lt x369) hb429)
            have x72 := (k430.block _ (blk_lt x72)).trans x72
            have x369 := (k430.block _ (blk_lt x369)).trans x369
            have ho439 := own_empty (base := w.heap.size) (size := 4) x72 lo74
            replace ho439 : World.ownsRow _ _ _ _ _ _ (pipesV []) := ho439
            have nb440 : Nb b2 (.slice (some ⟨b68, 0, none⟩) 0 0) := nb_new ne75
            have nb441 : Nb b9 (.slice (some ⟨b68, 0, none⟩) 0 0) := nb_new ne76
            have nb442 : Nb b17 (.slice (some ⟨b68, 0, none⟩) 0 0) := nb_new ne77
            have nb443 : Nb b365 (.slice (some ⟨b68, 0, none⟩) 0 0) := nb_new (Ne.symm ne375)
            have nb444 : Nb b427 (.slice (some ⟨b68, 0, none⟩) 0 0) := nb_new (Ne.symm ne437)
            replace ho439 : World.ownsRow _ _ _ _ _ _ (pipesV []) := ho439
            refine W.sapR (e := 50) (size := 4) (base := w.heap.size) (v := .slice (some ⟨b68, 0, none⟩) 0 0) (A := A) (m := n) (c := c) s432 rfl rfl rfl rfl (by kernel_rfl) (by kernel_rfl) (by kernel_rfl) ho439 (Rd.kept ha (SG.belowR c37 s432 (fun kq e => by cases e))) hf (pipes_one _) (by omega) (by have := ((SG.belowR c37 s432 (fun kq e => by cases e))).size; omega) (.inr (fun kq e => by have := (s67).size; have := hb70; have e' := Option.some.inj e; simp at e'; omega)) (fun A445 cap446 w447 ho448 hg449 hat450 s451 => ?_)
            refine F.nx ?_
            have nb452 : Nb b2 (.slice A445 (0 + n) cap446) := nb_app2 nb440 (Nat.lt_of_lt_of_le (blk_lt x6) (s432).size) hat450
            have nb453 : Nb b9 (.slice A445 (0 + n) cap446) := nb_app2 nb441 (Nat.lt_of_lt_of_le (blk_lt x13) (s432).size) hat450
            have nb454 : Nb b17 (.slice A445 (0 + n) cap446) := nb_app2 nb442 (Nat.lt_of_lt_of_le (blk_lt x21) (s432).size) hat450
            have nb455 : Nb b365 (.slice A445 (0 + n) cap446) := nb_app2 nb443 (blk_lt x369) hat450
            have x369 := (hg449.block _ (blk_lt x369) nb443).trans x369
            have nb456 : Nb b427 (.slice A445 (0 + n) cap446) := nb_app2 nb444 (blk_lt x431) hat450
            have x431 := (hg449.block _ (blk_lt x431) nb444).trans x431
            have ho448 := own_joinP ho448
            have fr457 : ∀ kq, (.slice A445 (0 + n) cap446 : Value).ownBlock = some kq → wlj1.heap.size ≤ kq := fun kq e => by
              have hs := (s432).size
              rcases hat450 with h | h
              · exact (show ∀ kq, Value.ownBlock _ = some kq → wlj1.heap.size ≤ kq from (fun kq e => by have := (s67).size; have := hb70; have e' := Option.some.inj e; simp at e'; omega)) kq (h.symm.trans e)
              · have := Option.some.inj (h.symm.trans e); omega
            refine W.sc (vs := [.slice A445 (0 + n) cap446, .int .i64 ((k2 : Nat) : Int), .slice (some ⟨b427, 0, none⟩) 1 1]) rfl rfl (by kernel_rfl) (by kernel_rfl) (by kernel_rfl) rfl (InsertP_any A445 (0 + n) cap446 k2 b427 w.heap.size ([] ++ ps) x _ ((SG.belowR c37 s451 (fun kq e => by cases e))).size ho448 (by rcases hat450 with h | h <;> rw [h] <;> simp [Value.ownBlock]) x431 nb456 (by omega) (by omega)) ?_
            rintro e w461 ⟨A458, c459, rfl, ho463, g462, hat465⟩
            have s464 := SG.of_grown s451 g462 (.inr fr457)
            refine ⟨_, rfl, s464, ?_⟩
            refine F.nx ?_
            have nb466 : Nb b2 (.slice A458 ((0 + n) + 1) c459) := nb_app3 (v := .slice A445 (0 + n) cap446) nb452 (Nat.lt_of_lt_of_le (blk_lt x6) (s451).size) hat465
            have nb467 : Nb b9 (.slice A458 ((0 + n) + 1) c459) := nb_app3 (v := .slice A445 (0 + n) cap446) nb453 (Nat.lt_of_lt_of_le (blk_lt x13) (s451).size) hat465
            have nb468 : Nb b17 (.slice A458 ((0 + n) + 1) c459) := nb_app3 (v := .slice A445 (0 + n) cap446) nb454 (Nat.lt_of_lt_of_le (blk_lt x21) (s451).size) hat465
            have nb469 : Nb b365 (.slice A458 ((0 + n) + 1) c459) := nb_app3 (v := .slice A445 (0 + n) cap446) nb455 (blk_lt x369) hat465
            have x369 := (g462.block _ (blk_lt x369) nb455).trans x369
            have nb470 : Nb b427 (.slice A458 ((0 + n) + 1) c459) := nb_app3 (v := .slice A445 (0 + n) cap446) nb456 (blk_lt x431) hat465
            have x431 := (g462.block _ (blk_lt x431) nb456).trans x431
            have fr471 : ∀ kq, (.slice A458 ((0 + n) + 1) c459 : Value).ownBlock = some kq → wlj1.heap.size ≤ kq := fun kq e => by
              have hs := (s451).size
              rcases (show (.slice A458 ((0 + n) + 1) c459 : Value).ownBlock = (.slice A445 (0 + n) cap446 : Value).ownBlock ∨ ∀ k9, (.slice A458 ((0 + n) + 1) c459 : Value).ownBlock = some k9 → w447.heap.size ≤ k9 from hat465) with h | h
              · exact (show ∀ kq, (.slice A445 (0 + n) cap446 : Value).ownBlock = some kq → wlj1.heap.size ≤ kq from fr457) kq (by rw [← h]; exact e)
              · have := h kq e; omega
            refine F.q (v := .agg #[.int .i64 m, .slice A458 ((0 + n) + 1) c459]) (hr := (r_build rfl (vs := [(0, .int .i64 m), (1, .slice A458 ((0 + n) + 1) c459)]) (by kernel_rfl) (by kernel_rfl))) (h := ?_)
            refine W.ss (v := .agg #[.int .i64 m, .slice A458 ((0 + n) + 1) c459]) (j := 0) (news := [.int .i64 m, .slice A458 ((0 + n) + 1) c459]) (cs' := #[.int .i64 m, .slice A458 ((0 + n) + 1) c459]) s464 rfl (by kernel_rfl) rfl rfl (by kernel_rfl) (by kernel_rfl) x369 (by kernel_rfl) (by kernel_rfl) (by simp) (by kernel_rfl) (by kernel_rfl) (.inr (Nat.le_trans (s73).size (Nat.le_of_eq hb367))) (fun w472 g473 x474 s475 => ?_)
            have x431 := (g473.block _ (blk_lt x431) (fun e9 => ne438 (Option.some.inj e9).symm)).trans x431
            have ho476 := own_grown ho463 g473 (fun j e1 e2 => by cases e2; exact nb469 e1.symm)
            refine F.endF [(2, .pointer (some ⟨b2, 0, none⟩)), (3, .pointer (some ⟨b9, 0, none⟩)), (4, .pointer (some ⟨b17, 0, none⟩)), (5, .bool false), (6, .int .i64 ((k2 : Nat) : Int)), (7, .pointer (some ⟨b365, 0, none⟩))] (fun U477 => ?_)
            have x6 := SG.blk s475 x6 (Option.some_ne_none _)
            have x13 := SG.blk s475 x13 (Option.some_ne_none _)
            have x21 := SG.blk s475 x21 (Option.some_ne_none _)
            have c478 := (SG.belowR c37 s475 (fun kq e => by cases e))
            exact h9 0 _ _ ⟨A458, ((0 + n) + 1), c459, b365, (fun iU9 => lk [(2, .pointer (some ⟨b2, 0, none⟩)), (3, .pointer (some ⟨b9, 0, none⟩)), (4, .pointer (some ⟨b17, 0, none⟩)), (5, .bool false), (6, .int .i64 ((k2 : Nat) : Int)), (7, .pointer (some ⟨b365, 0, none⟩))] iU9 (U477 iU9)), (by kernel_rfl), x6, x13, x21, x474, lo371, ho476, by omega, nb466, nb467, nb468, nb469, ne372, ne373, ne374, c478⟩
      · refine W.sn (fun b => .slice (some ⟨b, 0, none⟩) 1 1) #[.int .i64 x.id, .int .i64 x.fr, .int .i64 x.to, .int .i64 x.sz] 50 s67 rfl (by kernel_rfl) rfl (fun _ => by kernel_rfl) (fun b479 w480 hb481 k482 x483 s484 => ?_)
        refine F.nx ?_
        have lo485 : w.heap.size ≤ b479 := Nat.le_trans ((SG.belowR c37 s67 (fun kq e => by cases e))).size (Nat.le_of_eq hb481)
        have ne486 : b2 ≠ b479 := Nat.ne_of_lt (Nat.lt_of_lt_of_eq (Nat.lt_of_lt_of_le (blk_lt x6) (s67).size) hb481)
        have ne487 : b9 ≠ b479 := Nat.ne_of_lt (Nat.lt_of_lt_of_eq (Nat.lt_of_lt_of_le (blk_lt x13) (s67).size) hb481)
        have ne488 : b17 ≠ b479 := Nat.ne_of_lt (Nat.lt_of_lt_of_eq (Nat.lt_of_lt_of_le (blk_lt x21) (s67).size) hb481)
        refine W.sbr ?_ ?_
        · refine W.sn (fun b => .slice (some ⟨b, 0, none⟩) 0 0) #[] 50 s484 rfl (by kernel_rfl) rfl (fun _ => by kernel_rfl) (fun b489 w490 hb491 k492 x493 s494 => ?_)
          refine F.nx ?_
          have lo495 : w.heap.size ≤ b489 := Nat.le_trans ((SG.belowR c37 s484 (fun kq e => by cases e))).size (Nat.le_of_eq hb491)
          have ne496 : b2 ≠ b489 := Nat.ne_of_lt (Nat.lt_of_lt_of_eq (Nat.lt_of_lt_of_le (blk_lt x6) (s484).size) hb491)
          have ne497 : b9 ≠ b489 := Nat.ne_of_lt (Nat.lt_of_lt_of_eq (Nat.lt_of_lt_of_le (blk_lt x13) (s484).size) hb491)
          have ne498 : b17 ≠ b489 := Nat.ne_of_lt (Nat.lt_of_lt_of_eq (Nat.lt_of_lt_of_le (blk_lt x21) (s484).size) hb491)
          have ne499 : b479 ≠ b489 := Nat.ne_of_lt (Nat.lt_of_lt_of_eq (blk_lt x483) hb491)
          have x483 := (k492.block _ (blk_lt x483)).trans x483
          refine W.sbr ?_ ?_
          · have ho500 := own_empty (base := w.heap.size) (size := 4) x493 lo495
            replace ho500 : World.ownsRow _ _ _ _ _ _ (pipesV []) := ho500
            have nb501 : Nb b2 (.slice (some ⟨b489, 0, none⟩) 0 0) := nb_new ne496
            have nb502 : Nb b9 (.slice (some ⟨b489, 0, none⟩) 0 0) := nb_new ne497
            have nb503 : Nb b17 (.slice (some ⟨b489, 0, none⟩) 0 0) := nb_new ne498
            have nb504 : Nb b479 (.slice (some ⟨b489, 0, none⟩) 0 0) := nb_new ne499
            replace ho500 : World.ownsRow _ _ _ _ _ _ (pipesV []) := ho500
            refine W.sapR (e := 50) (size := 4) (base := w.heap.size) (v := .slice (some ⟨b489, 0, none⟩) 0 0) (A := A) (m := n) (c := c) s494 rfl rfl rfl rfl (by kernel_rfl) (by kernel_rfl) (by kernel_rfl) ho500 (Rd.kept ha (SG.belowR c37 s494 (fun kq e => by cases e))) hf (pipes_one _) (by omega) (by have := ((SG.belowR c37 s494 (fun kq e => by cases e))).size; omega) (.inr (fun kq e => by have := (s484).size; have := hb491; have e' := Option.some.inj e; simp at e'; omega)) (fun A505 cap506 w507 ho508 hg509 hat510 s511 => ?_)
            refine F.nx ?_
            have nb512 : Nb b2 (.slice A505 (0 + n) cap506) := nb_app2 nb501 (Nat.lt_of_lt_of_le (blk_lt x6) (s494).size) hat510
            have nb513 : Nb b9 (.slice A505 (0 + n) cap506) := nb_app2 nb502 (Nat.lt_of_lt_of_le (blk_lt x13) (s494).size) hat510
            have nb514 : Nb b17 (.slice A505 (0 + n) cap506) := nb_app2 nb503 (Nat.lt_of_lt_of_le (blk_lt x21) (s494).size) hat510
            have nb515 : Nb b479 (.slice A505 (0 + n) cap506) := nb_app2 nb504 (blk_lt x483) hat510
            have x483 := (hg509.block _ (blk_lt x483) nb504).trans x483
            have ho508 := own_joinP ho508
            have fr516 : ∀ kq, (.slice A505 (0 + n) cap506 : Value).ownBlock = some kq → wlj1.heap.size ≤ kq := fun kq e => by
              have hs := (s494).size
              rcases hat510 with h | h
              · exact (show ∀ kq, Value.ownBlock _ = some kq → wlj1.heap.size ≤ kq from (fun kq e => by have := (s484).size; have := hb491; have e' := Option.some.inj e; simp at e'; omega)) kq (h.symm.trans e)
              · have := Option.some.inj (h.symm.trans e); omega
            refine W.sbr ?_ ?_
            · refine W.sc (vs := [.slice A505 (0 + n) cap506, .int .i64 ((k2 : Nat) : Int), .slice (some ⟨b479, 0, none⟩) 1 1]) rfl rfl (by kernel_rfl) (by kernel_rfl) (by kernel_rfl) rfl (InsertP_any A505 (0 + n) cap506 k2 b479 w.heap.size ([] ++ ps) x _ ((SG.belowR c37 s511 (fun kq e => by cases e))).size ho508 (by rcases hat510 with h | h <;> rw [h] <;> simp [Value.ownBlock]) x483 nb515 (by omega) (by omega)) ?_
              rintro e w520 ⟨A517, c518, rfl, ho522, g521, hat524⟩
              have s523 := SG.of_grown s511 g521 (.inr fr516)
              refine ⟨_, rfl, s523, ?_⟩
              refine F.nx ?_
              have nb525 : Nb b2 (.slice A517 ((0 + n) + 1) c518) := nb_app3 (v := .slice A505 (0 + n) cap506) nb512 (Nat.lt_of_lt_of_le (blk_lt x6) (s511).size) hat524
              have nb526 : Nb b9 (.slice A517 ((0 + n) + 1) c518) := nb_app3 (v := .slice A505 (0 + n) cap506) nb513 (Nat.lt_of_lt_of_le (blk_lt x13) (s511).size) hat524
              have nb527 : Nb b17 (.slice A517 ((0 + n) + 1) c518) := nb_app3 (v := .slice A505 (0 + n) cap506) nb514 (Nat.lt_of_lt_of_le (blk_lt x21) (s511).size) hat524
              have nb528 : Nb b479 (.slice A517 ((0 + n) + 1) c518) := nb_app3 (v := .slice A505 (0 + n) cap506) nb515 (blk_lt x483) hat524
              have x483 := (g521.block _ (blk_lt x483) nb515).trans x483
              have fr529 : ∀ kq, (.slice A517 ((0 + n) + 1) c518 : Value).ownBlock = some kq → wlj1.heap.size ≤ kq := fun kq e => by
                have hs := (s511).size
                rcases (show (.slice A517 ((0 + n) + 1) c518 : Value).ownBlock = (.slice A505 (0 + n) cap506 : Value).ownBlock ∨ ∀ k9, (.slice A517 ((0 + n) + 1) c518 : Value).ownBlock = some k9 → w507.heap.size ≤ k9 from hat524) with h | h
                · exact (show ∀ kq, (.slice A505 (0 + n) cap506 : Value).ownBlock = some kq → wlj1.heap.size ≤ kq from fr516) kq (by rw [← h]; exact e)
                · have := h kq e; omega
              refine F.q (v := .agg #[.int .i64 m, .slice A517 ((0 + n) + 1) c518]) (hr := (r_build rfl (vs := [(0, .int .i64 m), (1, .slice A517 ((0 + n) + 1) c518)]) (by kernel_rfl) (by kernel_rfl))) (h := ?_)
              refine W.sn (fun b => .pointer (some ⟨b, 0, none⟩)) #[.int .i64 0, .slice none 0 0] 29 s523 rfl (by kernel_rfl) rfl (fun _ => by kernel_rfl) (fun b530 w531 hb532 k533 x534 s535 => ?_)
              refine F.nx ?_
              have lo536 : w.heap.size ≤ b530 := Nat.le_trans ((SG.belowR c37 s523 (fun kq e => by cases e))).size (Nat.le_of_eq hb532)
              have ne537 : b2 ≠ b530 := Nat.ne_of_lt (Nat.lt_of_lt_of_eq (Nat.lt_of_lt_of_le (blk_lt x6) (s523).size) hb532)
              have ne538 : b9 ≠ b530 := Nat.ne_of_lt (Nat.lt_of_lt_of_eq (Nat.lt_of_lt_of_le (blk_lt x13) (s523).size) hb532)
              have ne539 : b17 ≠ b530 := Nat.ne_of_lt (Nat.lt_of_lt_of_eq (Nat.lt_of_lt_of_le (blk_lt x21) (s523).size) hb532)
              have ne540 : b479 ≠ b530 := Nat.ne_of_lt (Nat.lt_of_lt_of_eq (blk_lt x483) hb532)
              have nb541 : Nb b530 (.slice A517 ((0 + n) + 1) c518) := nb_hi ho522 (Nat.le_of_eq hb532)
              have x483 := (k533.block _ (blk_lt x483)).trans x483
              have ho542 := own_kept ho522 k533
              refine W.ss (v := .agg #[.int .i64 m, .slice A517 ((0 + n) + 1) c518]) (j := 0) (news := [.int .i64 m, .slice A517 ((0 + n) + 1) c518]) (cs' := #[.int .i64 m, .slice A517 ((0 + n) + 1) c518]) s535 rfl (by kernel_rfl) rfl rfl (by kernel_rfl) (by kernel_rfl) x534 (by kernel_rfl) (by kernel_rfl) (by simp) (by kernel_rfl) (by kernel_rfl) (.inr (Nat.le_trans (s523).size (Nat.le_of_eq hb532))) (fun w543 g544 x545 s546 => ?_)
              have x483 := (g544.block _ (blk_lt x483) (fun e9 => ne540 (Option.some.inj e9))).trans x483
              have ho547 := own_grown ho542 g544 (fun j e1 e2 => by cases e2; exact nb541 e1.symm)
              refine F.endF [(2, .pointer (some ⟨b2, 0, none⟩)), (3, .pointer (some ⟨b9, 0, none⟩)), (4, .pointer (some ⟨b17, 0, none⟩)), (5, .bool false), (6, .int .i64 ((k2 : Nat) : Int)), (7, .pointer (some ⟨b530, 0, none⟩))] (fun U548 => ?_)
              have x6 := SG.blk s546 x6 (Option.some_ne_none _)
              have x13 := SG.blk s546 x13 (Option.some_ne_none _)
              have x21 := SG.blk s546 x21 (Option.some_ne_none _)
              have c549 := (SG.belowR c37 s546 (fun kq e => by cases e))
              exact h9 0 _ _ ⟨A517, ((0 + n) + 1), c518, b530, (fun iU9 => lk [(2, .pointer (some ⟨b2, 0, none⟩)), (3, .pointer (some ⟨b9, 0, none⟩)), (4, .pointer (some ⟨b17, 0, none⟩)), (5, .bool false), (6, .int .i64 ((k2 : Nat) : Int)), (7, .pointer (some ⟨b530, 0, none⟩))] iU9 (U548 iU9)), (by kernel_rfl), x6, x13, x21, x545, lo536, ho547, by omega, nb525, nb526, nb527, nb541, ne537, ne538, ne539, c549⟩
            · refine W.sn (fun b => .pointer (some ⟨b, 0, none⟩)) #[.int .i64 0, .slice none 0 0] 29 s511 rfl (by kernel_rfl) rfl (fun _ => by kernel_rfl) (fun b550 w551 hb552 k553 x554 s555 => ?_)
              refine F.nx ?_
              have lo556 : w.heap.size ≤ b550 := Nat.le_trans ((SG.belowR c37 s511 (fun kq e => by cases e))).size (Nat.le_of_eq hb552)
              have ne557 : b2 ≠ b550 := Nat.ne_of_lt (Nat.lt_of_lt_of_eq (Nat.lt_of_lt_of_le (blk_lt x6) (s511).size) hb552)
              have ne558 : b9 ≠ b550 := Nat.ne_of_lt (Nat.lt_of_lt_of_eq (Nat.lt_of_lt_of_le (blk_lt x13) (s511).size) hb552)
              have ne559 : b17 ≠ b550 := Nat.ne_of_lt (Nat.lt_of_lt_of_eq (Nat.lt_of_lt_of_le (blk_lt x21) (s511).size) hb552)
              have ne560 : b479 ≠ b550 := Nat.ne_of_lt (Nat.lt_of_lt_of_eq (blk_lt x483) hb552)
              have nb561 : Nb b550 (.slice A505 (0 + n) cap506) := nb_hi ho508 (Nat.le_of_eq hb552)
              have x483 := (k553.block _ (blk_lt x483)).trans x483
              have ho562 := own_kept ho508 k553
              refine W.sc (vs := [.slice A505 (0 + n) cap506, .int .i64 ((k2 : Nat) : Int), .slice (some ⟨b479, 0, none⟩) 1 1]) rfl rfl (by kernel_rfl) (by kernel_rfl) (by kernel_rfl) rfl (InsertP_any A505 (0 + n) cap506 k2 b479 w.heap.size ([] ++ ps) x _ ((SG.belowR c37 s555 (fun kq e => by cases e))).size ho562 (by rcases hat510 with h | h <;> rw [h] <;> simp [Value.ownBlock]) x483 nb515 (by omega) (by omega)) ?_
              rintro e w566 ⟨A563, c564, rfl, ho568, g567, hat570⟩
              have s569 := SG.of_grown s555 g567 (.inr fr516)
              refine ⟨_, rfl, s569, ?_⟩
              refine F.nx ?_
              have nb571 : Nb b2 (.slice A563 ((0 + n) + 1) c564) := nb_app3 (v := .slice A505 (0 + n) cap506) nb512 (Nat.lt_of_lt_of_le (blk_lt x6) (s555).size) hat570
              have nb572 : Nb b9 (.slice A563 ((0 + n) + 1) c564) := nb_app3 (v := .slice A505 (0 + n) cap506) nb513 (Nat.lt_of_lt_of_le (blk_lt x13) (s555).size) hat570
              have nb573 : Nb b17 (.slice A563 ((0 + n) + 1) c564) := nb_app3 (v := .slice A505 (0 + n) cap506) nb514 (Nat.lt_of_lt_of_le (blk_lt x21) (s555).size) hat570
              have nb574 : Nb b479 (.slice A563 ((0 + n) + 1) c564) := nb_app3 (v := .slice A505 (0 + n) cap506) nb515 (blk_lt x483) hat570
              have x483 := (g567.block _ (blk_lt x483) nb515).trans x483
              have nb575 : Nb b550 (.slice A563 ((0 + n) + 1) c564) := nb_app3 (v := .slice A505 (0 + n) cap506) nb561 (blk_lt x554) hat570
              have x554 := (g567.block _ (blk_lt x554) nb561).trans x554
              have fr576 : ∀ kq, (.slice A563 ((0 + n) + 1) c564 : Value).ownBlock = some kq → wlj1.heap.size ≤ kq := fun kq e => by
                have hs := (s555).size
                rcases (show (.slice A563 ((0 + n) + 1) c564 : Value).ownBlock = (.slice A505 (0 + n) cap506 : Value).ownBlock ∨ ∀ k9, (.slice A563 ((0 + n) + 1) c564 : Value).ownBlock = some k9 → w551.heap.size ≤ k9 from hat570) with h | h
                · exact (show ∀ kq, (.slice A505 (0 + n) cap506 : Value).ownBlock = some kq → wlj1.heap.size ≤ kq from fr516) kq (by rw [← h]; exact e)
                · have := h kq e; omega
              refine F.q (v := .agg #[.int .i64 m, .slice A563 ((0 + n) + 1) c564]) (hr := (r_build rfl (vs := [(0, .int .i64 m), (1, .slice A563 ((0 + n) + 1) c564)]) (by kernel_rfl) (by kernel_rfl))) (h := ?_)
              refine W.ss (v := .agg #[.int .i64 m, .slice A563 ((0 + n) + 1) c564]) (j := 0) (news := [.int .i64 m, .slice A563 ((0 + n) + 1) c564]) (cs' := #[.int .i64 m, .slice A563 ((0 + n) + 1) c564]) s569 rfl (by kernel_rfl) rfl rfl (by kernel_rfl) (by kernel_rfl) x554 (by kernel_rfl) (by kernel_rfl) (by simp) (by kernel_rfl) (by kernel_rfl) (.inr (Nat.le_trans (s511).size (Nat.le_of_eq hb552))) (fun w577 g578 x579 s580 => ?_)
              have x483 := (g578.block _ (blk_lt x483) (fun e9 => ne560 (Option.some.inj e9))).trans x483
              have ho581 := own_grown ho568 g578 (fun j e1 e2 => by cases e2; exact nb575 e1.symm)
              refine F.endF [(2, .pointer (some ⟨b2, 0, none⟩)), (3, .pointer (some ⟨b9, 0, none⟩)), (4, .pointer (some ⟨b17, 0, none⟩)), (5, .bool false), (6, .int .i64 ((k2 : Nat) : Int)), (7, .pointer (some ⟨b550, 0, none⟩))] (fun U582 => ?_)
              have x6 := SG.blk s580 x6 (Option.some_ne_none _)
              have x13 := SG.blk s580 x13 (Option.some_ne_none _)
              have x21 := SG.blk s580 x21 (Option.some_ne_none _)
              have c583 := (SG.belowR c37 s580 (fun kq e => by cases e))
              exact h9 0 _ _ ⟨A563, ((0 + n) + 1), c564, b550, (fun iU9 => lk [(2, .pointer (some ⟨b2, 0, none⟩)), (3, .pointer (some ⟨b9, 0, none⟩)), (4, .pointer (some ⟨b17, 0, none⟩)), (5, .bool false), (6, .int .i64 ((k2 : Nat) : Int)), (7, .pointer (some ⟨b550, 0, none⟩))] iU9 (U582 iU9)), (by kernel_rfl), x6, x13, x21, x579, lo556, ho581, by omega, nb571, nb572, nb573, nb575, ne557, ne558, ne559, c583⟩
          · refine W.sn (fun b => .pointer (some ⟨b, 0, none⟩)) #[.int .i64 0, .slice none 0 0] 29 s494 rfl (by kernel_rfl) rfl (fun _ => by kernel_rfl) (fun b584 w585 hb586 k587 x588 s589 => ?_)
            refine F.nx ?_
            have lo590 : w.heap.size ≤ b584 := Nat.le_trans ((SG.belowR c37 s494 (fun kq e => by cases e))).size (Nat.le_of_eq hb586)
            have ne591 : b2 ≠ b584 := Nat.ne_of_lt (Nat.lt_of_lt_of_eq (Nat.lt_of_lt_of_le (blk_lt x6) (s494).size) hb586)
            have ne592 : b9 ≠ b584 := Nat.ne_of_lt (Nat.lt_of_lt_of_eq (Nat.lt_of_lt_of_le (blk_lt x13) (s494).size) hb586)
            have ne593 : b17 ≠ b584 := Nat.ne_of_lt (Nat.lt_of_lt_of_eq (Nat.lt_of_lt_of_le (blk_lt x21) (s494).size) hb586)
            have ne594 : b479 ≠ b584 := Nat.ne_of_lt (Nat.lt_of_lt_of_eq (blk_lt x483) hb586)
            have ne595 : b489 ≠ b584 := Nat.ne_of_lt (Nat.lt_of_lt_of_eq (blk_lt x493) hb586)
            have x483 := (k587.block _ (blk_lt x483)).trans x483
            have x493 := (k587.block _ (blk_lt x493)).trans x493
            have ho596 := own_empty (base := w.heap.size) (size := 4) x493 lo495
            replace ho596 : World.ownsRow _ _ _ _ _ _ (pipesV []) := ho596
            have nb597 : Nb b2 (.slice (some ⟨b489, 0, none⟩) 0 0) := nb_new ne496
            have nb598 : Nb b9 (.slice (some ⟨b489, 0, none⟩) 0 0) := nb_new ne497
            have nb599 : Nb b17 (.slice (some ⟨b489, 0, none⟩) 0 0) := nb_new ne498
            have nb600 : Nb b479 (.slice (some ⟨b489, 0, none⟩) 0 0) := nb_new ne499
            have nb601 : Nb b584 (.slice (some ⟨b489, 0, none⟩) 0 0) := nb_new (Ne.symm ne595)
            replace ho596 : World.ownsRow _ _ _ _ _ _ (pipesV []) := ho596
            refine W.sapR (e := 50) (size := 4) (base := w.heap.size) (v := .slice (some ⟨b489, 0, none⟩) 0 0) (A := A) (m := n) (c := c) s589 rfl rfl rfl rfl (by kernel_rfl) (by kernel_rfl) (by kernel_rfl) ho596 (Rd.kept ha (SG.belowR c37 s589 (fun kq e => by cases e))) hf (pipes_one _) (by omega) (by have := ((SG.belowR c37 s589 (fun kq e => by cases e))).size; omega) (.inr (fun kq e => by have := (s484).size; have := hb491; have e' := Option.some.inj e; simp at e'; omega)) (fun A602 cap603 w604 ho605 hg606 hat607 s608 => ?_)
            refine F.nx ?_
            have nb609 : Nb b2 (.slice A602 (0 + n) cap603) := nb_app2 nb597 (Nat.lt_of_lt_of_le (blk_lt x6) (s589).size) hat607
            have nb610 : Nb b9 (.slice A602 (0 + n) cap603) := nb_app2 nb598 (Nat.lt_of_lt_of_le (blk_lt x13) (s589).size) hat607
            have nb611 : Nb b17 (.slice A602 (0 + n) cap603) := nb_app2 nb599 (Nat.lt_of_lt_of_le (blk_lt x21) (s589).size) hat607
            have nb612 : Nb b479 (.slice A602 (0 + n) cap603) := nb_app2 nb600 (blk_lt x483) hat607
            have x483 := (hg606.block _ (blk_lt x483) nb600).trans x483
            have nb613 : Nb b584 (.slice A602 (0 + n) cap603) := nb_app2 nb601 (blk_lt x588) hat607
            have x588 := (hg606.block _ (blk_lt x588) nb601).trans x588
            have ho605 := own_joinP ho605
            have fr614 : ∀ kq, (.slice A602 (0 + n) cap603 : Value).ownBlock = some kq → wlj1.heap.size ≤ kq := fun kq e => by
              have hs := (s589).size
              rcases hat607 with h | h
              · exact (show ∀ kq, Value.ownBlock _ = some kq → wlj1.heap.size ≤ kq from (fun kq e => by have := (s484).size; have := hb491; have e' := Option.some.inj e; simp at e'; omega)) kq (h.symm.trans e)
              · have := Option.some.inj (h.symm.trans e); omega
            refine W.sc (vs := [.slice A602 (0 + n) cap603, .int .i64 ((k2 : Nat) : Int), .slice (some ⟨b479, 0, none⟩) 1 1]) rfl rfl (by kernel_rfl) (by kernel_rfl) (by kernel_rfl) rfl (InsertP_any A602 (0 + n) cap603 k2 b479 w.heap.size ([] ++ ps) x _ ((SG.belowR c37 s608 (fun kq e => by cases e))).size ho605 (by rcases hat607 with h | h <;> rw [h] <;> simp [Value.ownBlock]) x483 nb612 (by omega) (by omega)) ?_
            rintro e w618 ⟨A615, c616, rfl, ho620, g619, hat622⟩
            have s621 := SG.of_grown s608 g619 (.inr fr614)
            refine ⟨_, rfl, s621, ?_⟩
            refine F.nx ?_
            have nb623 : Nb b2 (.slice A615 ((0 + n) + 1) c616) := nb_app3 (v := .slice A602 (0 + n) cap603) nb609 (Nat.lt_of_lt_of_le (blk_lt x6) (s608).size) hat622
            have nb624 : Nb b9 (.slice A615 ((0 + n) + 1) c616) := nb_app3 (v := .slice A602 (0 + n) cap603) nb610 (Nat.lt_of_lt_of_le (blk_lt x13) (s608).size) hat622
            have nb625 : Nb b17 (.slice A615 ((0 + n) + 1) c616) := nb_app3 (v := .slice A602 (0 + n) cap603) nb611 (Nat.lt_of_lt_of_le (blk_lt x21) (s608).size) hat622
            have nb626 : Nb b479 (.slice A615 ((0 + n) + 1) c616) := nb_app3 (v := .slice A602 (0 + n) cap603) nb612 (blk_lt x483) hat622
            have x483 := (g619.block _ (blk_lt x483) nb612).trans x483
            have nb627 : Nb b584 (.slice A615 ((0 + n) + 1) c616) := nb_app3 (v := .slice A602 (0 + n) cap603) nb613 (blk_lt x588) hat622
            have x588 := (g619.block _ (blk_lt x588) nb613).trans x588
            have fr628 : ∀ kq, (.slice A615 ((0 + n) + 1) c616 : Value).ownBlock = some kq → wlj1.heap.size ≤ kq := fun kq e => by
              have hs := (s608).size
              rcases (show (.slice A615 ((0 + n) + 1) c616 : Value).ownBlock = (.slice A602 (0 + n) cap603 : Value).ownBlock ∨ ∀ k9, (.slice A615 ((0 + n) + 1) c616 : Value).ownBlock = some k9 → w604.heap.size ≤ k9 from hat622) with h | h
              · exact (show ∀ kq, (.slice A602 (0 + n) cap603 : Value).ownBlock = some kq → wlj1.heap.size ≤ kq from fr614) kq (by rw [← h]; exact e)
              · have := h kq e; omega
            refine F.q (v := .agg #[.int .i64 m, .slice A615 ((0 + n) + 1) c616]) (hr := (r_build rfl (vs := [(0, .int .i64 m), (1, .slice A615 ((0 + n) + 1) c616)]) (by kernel_rfl) (by kernel_rfl))) (h := ?_)
            refine W.ss (v := .agg #[.int .i64 m, .slice A615 ((0 + n) + 1) c616]) (j := 0) (news := [.int .i64 m, .slice A615 ((0 + n) + 1) c616]) (cs' := #[.int .i64 m, .slice A615 ((0 + n) + 1) c616]) s621 rfl (by kernel_rfl) rfl rfl (by kernel_rfl) (by kernel_rfl) x588 (by kernel_rfl) (by kernel_rfl) (by simp) (by kernel_rfl) (by kernel_rfl) (.inr (Nat.le_trans (s494).size (Nat.le_of_eq hb586))) (fun w629 g630 x631 s632 => ?_)
            have x483 := (g630.block _ (blk_lt x483) (fun e9 => ne594 (Option.some.inj e9))).trans x483
            have ho633 := own_grown ho620 g630 (fun j e1 e2 => by cases e2; exact nb627 e1.symm)
            refine F.endF [(2, .pointer (some ⟨b2, 0, none⟩)), (3, .pointer (some ⟨b9, 0, none⟩)), (4, .pointer (some ⟨b17, 0, none⟩)), (5, .bool false), (6, .int .i64 ((k2 : Nat) : Int)), (7, .pointer (some ⟨b584, 0, none⟩))] (fun U634 => ?_)
            have x6 := SG.blk s632 x6 (Option.some_ne_none _)
            have x13 := SG.blk s632 x13 (Option.some_ne_none _)
            have x21 := SG.blk s632 x21 (Option.some_ne_none _)
            have c635 := (SG.belowR c37 s632 (fun kq e => by cases e))
            exact h9 0 _ _ ⟨A615, ((0 + n) + 1), c616, b584, (fun iU9 => lk [(2, .pointer (some ⟨b2, 0, none⟩)), (3, .pointer (some ⟨b9, 0, none⟩)), (4, .pointer (some ⟨b17, 0, none⟩)), (5, .bool false), (6, .int .i64 ((k2 : Nat) : Int)), (7, .pointer (some ⟨b584, 0, none⟩))] iU9 (U634 iU9)), (by kernel_rfl), x6, x13, x21, x631, lo590, ho633, by omega, nb623, nb624, nb625, nb627, ne591, ne592, ne593, c635⟩
        · refine W.sn (fun b => .pointer (some ⟨b, 0, none⟩)) #[.int .i64 0, .slice none 0 0] 29 s484 rfl (by kernel_rfl) rfl (fun _ => by kernel_rfl) (fun b636 w637 hb638 k639 x640 s641 => ?_)
          refine F.nx ?_
          have lo642 : w.heap.size ≤ b636 := Nat.le_trans ((SG.belowR c37 s484 (fun kq e => by cases e))).size (Nat.le_of_eq hb638)
          have ne643 : b2 ≠ b636 := Nat.ne_of_lt (Nat.lt_of_lt_of_eq (Nat.lt_of_lt_of_le (blk_lt x6) (s484).size) hb638)
          have ne644 : b9 ≠ b636 := Nat.ne_of_lt (Nat.lt_of_lt_of_eq (Nat.lt_of_lt_of_le (blk_lt x13) (s484).size) hb638)
          have ne645 : b17 ≠ b636 := Nat.ne_of_lt (Nat.lt_of_lt_of_eq (Nat.lt_of_lt_of_le (blk_lt x21) (s484).size) hb638)
          have ne646 : b479 ≠ b636 := Nat.ne_of_lt (Nat.lt_of_lt_of_eq (blk_lt x483) hb638)
          have x483 := (k639.block _ (blk_lt x483)).trans x483
          refine W.sn (fun b => .slice (some ⟨b, 0, none⟩) 0 0) #[] 50 s641 rfl (by kernel_rfl) rfl (fun _ => by kernel_rfl) (fun b647 w648 hb649 k650 x651 s652 => ?_)
          refine F.nx ?_
          have lo653 : w.heap.size ≤ b647 := Nat.le_trans ((SG.belowR c37 s641 (fun kq e => by cases e))).size (Nat.le_of_eq hb649)
          have ne654 : b2 ≠ b647 := Nat.ne_of_lt (Nat.lt_of_lt_of_eq (Nat.lt_of_lt_of_le (blk_lt x6) (s641).size) hb649)
          have ne655 : b9 ≠ b647 := Nat.ne_of_lt (Nat.lt_of_lt_of_eq (Nat.lt_of_lt_of_le (blk_lt x13) (s641).size) hb649)
          have ne656 : b17 ≠ b647 := Nat.ne_of_lt (Nat.lt_of_lt_of_eq (Nat.lt_of_lt_of_le (blk_lt x21) (s641).size) hb649)
          have ne657 : b479 ≠ b647 := Nat.ne_of_lt (Nat.lt_of_lt_of_eq (blk_lt x483) hb649)
          have ne658 : b636 ≠ b647 := Nat.ne_of_lt (Nat.lt_of_lt_of_eq (blk_lt x640) hb649)
          have x483 := (k650.block _ (blk_lt x483)).trans x483
          have x640 := (k650.block _ (blk_lt x640)).trans x640
          have ho659 := own_empty (base := w.heap.size) (size := 4) x651 lo653
          replace ho659 : World.ownsRow _ _ _ _ _ _ (pipesV []) := ho659
          have nb660 : Nb b2 (.slice (some ⟨b647, 0, none⟩) 0 0) := nb_new ne654
          have nb661 : Nb b9 (.slice (some ⟨b647, 0, none⟩) 0 0) := nb_new ne655
          have nb662 : Nb b17 (.slice (some ⟨b647, 0, none⟩) 0 0) := nb_new ne656
          have nb663 : Nb b479 (.slice (some ⟨b647, 0, none⟩) 0 0) := nb_new ne657
          have nb664 : Nb b636 (.slice (some ⟨b647, 0, none⟩) 0 0) := nb_new ne658
          replace ho659 : World.ownsRow _ _ _ _ _ _ (pipesV []) := ho659
          refine W.sapR (e := 50) (size := 4) (base := w.heap.size) (v := .slice (some ⟨b647, 0, none⟩) 0 0) (A := A) (m := n) (c := c) s652 rfl rfl rfl rfl (by kernel_rfl) (by kernel_rfl) (by kernel_rfl) ho659 (Rd.kept ha (SG.belowR c37 s652 (fun kq e => by cases e))) hf (pipes_one _) (by omega) (by have := ((SG.belowR c37 s652 (fun kq e => by cases e))).size; omega) (.inr (fun kq e => by have := (s641).size; have := hb649; have e' := Option.some.inj e; simp at e'; omega)) (fun A665 cap666 w667 ho668 hg669 hat670 s671 => ?_)
          refine F.nx ?_
          have nb672 : Nb b2 (.slice A665 (0 + n) cap666) := nb_app2 nb660 (Nat.lt_of_lt_of_le (blk_lt x6) (s652).size) hat670
          have nb673 : Nb b9 (.slice A665 (0 + n) cap666) := nb_app2 nb661 (Nat.lt_of_lt_of_le (blk_lt x13) (s652).size) hat670
          have nb674 : Nb b17 (.slice A665 (0 + n) cap666) := nb_app2 nb662 (Nat.lt_of_lt_of_le (blk_lt x21) (s652).size) hat670
          have nb675 : Nb b479 (.slice A665 (0 + n) cap666) := nb_app2 nb663 (blk_lt x483) hat670
          have x483 := (hg669.block _ (blk_lt x483) nb663).trans x483
          have nb676 : Nb b636 (.slice A665 (0 + n) cap666) := nb_app2 nb664 (blk_lt x640) hat670
          have x640 := (hg669.block _ (blk_lt x640) nb664).trans x640
          have ho668 := own_joinP ho668
          have fr677 : ∀ kq, (.slice A665 (0 + n) cap666 : Value).ownBlock = some kq → wlj1.heap.size ≤ kq := fun kq e => by
            have hs := (s652).size
            rcases hat670 with h | h
            · exact (show ∀ kq, Value.ownBlock _ = some kq → wlj1.heap.size ≤ kq from (fun kq e => by have := (s641).size; have := hb649; have e' := Option.some.inj e; simp at e'; omega)) kq (h.symm.trans e)
            · have := Option.some.inj (h.symm.trans e); omega
          refine W.sc (vs := [.slice A665 (0 + n) cap666, .int .i64 ((k2 : Nat) : Int), .slice (some ⟨b479, 0, none⟩) 1 1]) rfl rfl (by kernel_rfl) (by kernel_rfl) (by kernel_rfl) rfl (InsertP_any A665 (0 + n) cap666 k2 b479 w.heap.size ([] ++ ps) x _ ((SG.belowR c37 s671 (fun kq e => by cases e))).size ho668 (by rcases hat670 with h | h <;> rw [h] <;> simp [Value.ownBlock]) x483 nb675 (by omega) (by omega)) ?_
          rintro e w681 ⟨A678, c679, rfl, ho683, g682, hat685⟩
          have s684 := SG.of_grown s671 g682 (.inr fr677)
          refine ⟨_, rfl, s684, ?_⟩
          refine F.nx ?_
          have nb686 : Nb b2 (.slice A678 ((0 + n) + 1) c679) := nb_app3 (v := .slice A665 (0 + n) cap666) nb672 (Nat.lt_of_lt_of_le (blk_lt x6) (s671).size) hat685
          have nb687 : Nb b9 (.slice A678 ((0 + n) + 1) c679) := nb_app3 (v := .slice A665 (0 + n) cap666) nb673 (Nat.lt_of_lt_of_le (blk_lt x13) (s671).size) hat685
          have nb688 : Nb b17 (.slice A678 ((0 + n) + 1) c679) := nb_app3 (v := .slice A665 (0 + n) cap666) nb674 (Nat.lt_of_lt_of_le (blk_lt x21) (s671).size) hat685
          have nb689 : Nb b479 (.slice A678 ((0 + n) + 1) c679) := nb_app3 (v := .slice A665 (0 + n) cap666) nb675 (blk_lt x483) hat685
          have x483 := (g682.block _ (blk_lt x483) nb675).trans x483
          have nb690 : Nb b636 (.slice A678 ((0 + n) + 1) c679) := nb_app3 (v := .slice A665 (0 + n) cap666) nb676 (blk_lt x640) hat685
          have x640 := (g682.block _ (blk_lt x640) nb676).trans x640
          have fr691 : ∀ kq, (.slice A678 ((0 + n) + 1) c679 : Value).ownBlock = some kq → wlj1.heap.size ≤ kq := fun kq e => by
            have hs := (s671).size
            rcases (show (.slice A678 ((0 + n) + 1) c679 : Value).ownBlock = (.slice A665 (0 + n) cap666 : Value).ownBlock ∨ ∀ k9, (.slice A678 ((0 + n) + 1) c679 : Value).ownBlock = some k9 → w667.heap.size ≤ k9 from hat685) with h | h
            · exact (show ∀ kq, (.slice A665 (0 + n) cap666 : Value).ownBlock = some kq → wlj1.heap.size ≤ kq from fr677) kq (by rw [← h]; exact e)
            · have := h kq e; omega
          refine F.q (v := .agg #[.int .i64 m, .slice A678 ((0 + n) + 1) c679]) (hr := (r_build rfl (vs := [(0, .int .i64 m), (1, .slice A678 ((0 + n) + 1) c679)]) (by kernel_rfl) (by kernel_rfl))) (h := ?_)
          refine W.ss (v := .agg #[.int .i64 m, .slice A678 ((0 + n) + 1) c679]) (j := 0) (news := [.int .i64 m, .slice A678 ((0 + n) + 1) c679]) (cs' := #[.int .i64 m, .slice A678 ((0 + n) + 1) c679]) s684 rfl (by kernel_rfl) rfl rfl (by kernel_rfl) (by kernel_rfl) x640 (by kernel_rfl) (by kernel_rfl) (by simp) (by kernel_rfl) (by kernel_rfl) (.inr (Nat.le_trans (s484).size (Nat.le_of_eq hb638))) (fun w692 g693 x694 s695 => ?_)
          have x483 := (g693.block _ (blk_lt x483) (fun e9 => ne646 (Option.some.inj e9))).trans x483
          have ho696 := own_grown ho683 g693 (fun j e1 e2 => by cases e2; exact nb690 e1.symm)
          refine F.endF [(2, .pointer (some ⟨b2, 0, none⟩)), (3, .pointer (some ⟨b9, 0, none⟩)), (4, .pointer (some ⟨b17, 0, none⟩)), (5, .bool false), (6, .int .i64 ((k2 : Nat) : Int)), (7, .pointer (some ⟨b636, 0, none⟩))] (fun U697 => ?_)
          have x6 := SG.blk s695 x6 (Option.some_ne_none _)
          have x13 := SG.blk s695 x13 (Option.some_ne_none _)
          have x21 := SG.blk s695 x21 (Option.some_ne_none _)
          have c698 := (SG.belowR c37 s695 (fun kq e => by cases e))
          exact h9 0 _ _ ⟨A678, ((0 + n) + 1), c679, b636, (fun iU9 => lk [(2, .pointer (some ⟨b2, 0, none⟩)), (3, .pointer (some ⟨b9, 0, none⟩)), (4, .pointer (some ⟨b17, 0, none⟩)), (5, .bool false), (6, .int .i64 ((k2 : Nat) : Int)), (7, .pointer (some ⟨b636, 0, none⟩))] iU9 (U697 iU9)), (by kernel_rfl), x6, x13, x21, x694, lo642, ho696, by omega, nb686, nb687, nb688, nb690, ne643, ne644, ne645, c698⟩
      · refine W.sn (fun b => .pointer (some ⟨b, 0, none⟩)) #[.int .i64 0, .slice none 0 0] 29 s67 rfl (by kernel_rfl) rfl (fun _ => by kernel_rfl) (fun b699 w700 hb701 k702 x703 s704 => ?_)
        refine F.nx ?_
        have lo705 : w.heap.size ≤ b699 := Nat.le_trans ((SG.belowR c37 s67 (fun kq e => by cases e))).size (Nat.le_of_eq hb701)
        have ne706 : b2 ≠ b699 := Nat.ne_of_lt (Nat.lt_of_lt_of_eq (Nat.lt_of_lt_of_le (blk_lt x6) (s67).size) hb701)
        have ne707 : b9 ≠ b699 := Nat.ne_of_lt (Nat.lt_of_lt_of_eq (Nat.lt_of_lt_of_le (blk_lt x13) (s67).size) hb701)
        have ne708 : b17 ≠ b699 := Nat.ne_of_lt (Nat.lt_of_lt_of_eq (Nat.lt_of_lt_of_le (blk_lt x21) (s67).size) hb701)
        refine W.sbr ?_ ?_
        · refine W.sn (fun b => .slice (some ⟨b, 0, none⟩) 0 0) #[] 50 s704 rfl (by kernel_rfl) rfl (fun _ => by kernel_rfl) (fun b709 w710 hb711 k712 x713 s714 => ?_)
          refine F.nx ?_
          have lo715 : w.heap.size ≤ b709 := Nat.le_trans ((SG.belowR c37 s704 (fun kq e => by cases e))).size (Nat.le_of_eq hb711)
          have ne716 : b2 ≠ b709 := Nat.ne_of_lt (Nat.lt_of_lt_of_eq (Nat.lt_of_lt_of_le (blk_lt x6) (s704).size) hb711)
          have ne717 : b9 ≠ b709 := Nat.ne_of_lt (Nat.lt_of_lt_of_eq (Nat.lt_of_lt_of_le (blk_lt x13) (s704).size) hb711)
          have ne718 : b17 ≠ b709 := Nat.ne_of_lt (Nat.lt_of_lt_of_eq (Nat.lt_of_lt_of_le (blk_lt x21) (s704).size) hb711)
          have ne719 : b699 ≠ b709 := Nat.ne_of_lt (Nat.lt_of_lt_of_eq (blk_lt x703) hb711)
          have x703 := (k712.block _ (blk_lt x703)).trans x703
          refine W.sbr ?_ ?_
          · have ho720 := own_empty (base := w.heap.size) (size := 4) x713 lo715
            replace ho720 : World.ownsRow _ _ _ _ _ _ (pipesV []) := ho720
            have nb721 : Nb b2 (.slice (some ⟨b709, 0, none⟩) 0 0) := nb_new ne716
            have nb722 : Nb b9 (.slice (some ⟨b709, 0, none⟩) 0 0) := nb_new ne717
            have nb723 : Nb b17 (.slice (some ⟨b709, 0, none⟩) 0 0) := nb_new ne718
            have nb724 : Nb b699 (.slice (some ⟨b709, 0, none⟩) 0 0) := nb_new ne719
            replace ho720 : World.ownsRow _ _ _ _ _ _ (pipesV []) := ho720
            refine W.sapR (e := 50) (size := 4) (base := w.heap.size) (v := .slice (some ⟨b709, 0, none⟩) 0 0) (A := A) (m := n) (c := c) s714 rfl rfl rfl rfl (by kernel_rfl) (by kernel_rfl) (by kernel_rfl) ho720 (Rd.kept ha (SG.belowR c37 s714 (fun kq e => by cases e))) hf (pipes_one _) (by omega) (by have := ((SG.belowR c37 s714 (fun kq e => by cases e))).size; omega) (.inr (fun kq e => by have := (s704).size; have := hb711; have e' := Option.some.inj e; simp at e'; omega)) (fun A725 cap726 w727 ho728 hg729 hat730 s731 => ?_)
            refine F.nx ?_
            have nb732 : Nb b2 (.slice A725 (0 + n) cap726) := nb_app2 nb721 (Nat.lt_of_lt_of_le (blk_lt x6) (s714).size) hat730
            have nb733 : Nb b9 (.slice A725 (0 + n) cap726) := nb_app2 nb722 (Nat.lt_of_lt_of_le (blk_lt x13) (s714).size) hat730
            have nb734 : Nb b17 (.slice A725 (0 + n) cap726) := nb_app2 nb723 (Nat.lt_of_lt_of_le (blk_lt x21) (s714).size) hat730
            have nb735 : Nb b699 (.slice A725 (0 + n) cap726) := nb_app2 nb724 (blk_lt x703) hat730
            have x703 := (hg729.block _ (blk_lt x703) nb724).trans x703
            have ho728 := own_joinP ho728
            have fr736 : ∀ kq, (.slice A725 (0 + n) cap726 : Value).ownBlock = some kq → wlj1.heap.size ≤ kq := fun kq e => by
              have hs := (s714).size
              rcases hat730 with h | h
              · exact (show ∀ kq, Value.ownBlock _ = some kq → wlj1.heap.size ≤ kq from (fun kq e => by have := (s704).size; have := hb711; have e' := Option.some.inj e; simp at e'; omega)) kq (h.symm.trans e)
              · have := Option.some.inj (h.symm.trans e); omega
            refine W.sn (fun b => .slice (some ⟨b, 0, none⟩) 1 1) #[.int .i64 x.id, .int .i64 x.fr, .int .i64 x.to, .int .i64 x.sz] 50 s731 rfl (by kernel_rfl) rfl (fun _ => by kernel_rfl) (fun b737 w738 hb739 k740 x741 s742 => ?_)
            refine F.nx ?_
            have lo743 : w.heap.size ≤ b737 := Nat.le_trans ((SG.belowR c37 s731 (fun kq e => by cases e))).size (Nat.le_of_eq hb739)
            have ne744 : b2 ≠ b737 := Nat.ne_of_lt (Nat.lt_of_lt_of_eq (Nat.lt_of_lt_of_le (blk_lt x6) (s731).size) hb739)
            have ne745 : b9 ≠ b737 := Nat.ne_of_lt (Nat.lt_of_lt_of_eq (Nat.lt_of_lt_of_le (blk_lt x13) (s731).size) hb739)
            have ne746 : b17 ≠ b737 := Nat.ne_of_lt (Nat.lt_of_lt_of_eq (Nat.lt_of_lt_of_le (blk_lt x21) (s731).size) hb739)
            have ne747 : b699 ≠ b737 := Nat.ne_of_lt (Nat.lt_of_lt_of_eq (blk_lt x703) hb739)
            have nb748 : Nb b737 (.slice A725 (0 + n) cap726) := nb_hi ho728 (Nat.le_of_eq hb739)
            have x703 := (k740.block _ (blk_lt x703)).trans x703
            have ho749 := own_kept ho728 k740
            refine W.sc (vs := [.slice A725 (0 + n) cap726, .int .i64 ((k2 : Nat) : Int), .slice (some ⟨b737, 0, none⟩) 1 1]) rfl rfl (by kernel_rfl) (by kernel_rfl) (by kernel_rfl) rfl (InsertP_any A725 (0 + n) cap726 k2 b737 w.heap.size ([] ++ ps) x _ ((SG.belowR c37 s742 (fun kq e => by cases e))).size ho749 (by rcases hat730 with h | h <;> rw [h] <;> simp [Value.ownBlock]) x741 nb748 (by omega) (by omega)) ?_
            rintro e w753 ⟨A750, c751, rfl, ho755, g754, hat757⟩
            have s756 := SG.of_grown s742 g754 (.inr fr736)
            refine ⟨_, rfl, s756, ?_⟩
            refine F.nx ?_
            have nb758 : Nb b2 (.slice A750 ((0 + n) + 1) c751) := nb_app3 (v := .slice A725 (0 + n) cap726) nb732 (Nat.lt_of_lt_of_le (blk_lt x6) (s742).size) hat757
            have nb759 : Nb b9 (.slice A750 ((0 + n) + 1) c751) := nb_app3 (v := .slice A725 (0 + n) cap726) nb733 (Nat.lt_of_lt_of_le (blk_lt x13) (s742).size) hat757
            have nb760 : Nb b17 (.slice A750 ((0 + n) + 1) c751) := nb_app3 (v := .slice A725 (0 + n) cap726) nb734 (Nat.lt_of_lt_of_le (blk_lt x21) (s742).size) hat757
            have nb761 : Nb b699 (.slice A750 ((0 + n) + 1) c751) := nb_app3 (v := .slice A725 (0 + n) cap726) nb735 (blk_lt x703) hat757
            have x703 := (g754.block _ (blk_lt x703) nb735).trans x703
            have nb762 : Nb b737 (.slice A750 ((0 + n) + 1) c751) := nb_app3 (v := .slice A725 (0 + n) cap726) nb748 (blk_lt x741) hat757
            have x741 := (g754.block _ (blk_lt x741) nb748).trans x741
            have fr763 : ∀ kq, (.slice A750 ((0 + n) + 1) c751 : Value).ownBlock = some kq → wlj1.heap.size ≤ kq := fun kq e => by
              have hs := (s742).size
              rcases (show (.slice A750 ((0 + n) + 1) c751 : Value).ownBlock = (.slice A725 (0 + n) cap726 : Value).ownBlock ∨ ∀ k9, (.slice A750 ((0 + n) + 1) c751 : Value).ownBlock = some k9 → w738.heap.size ≤ k9 from hat757) with h | h
              · exact (show ∀ kq, (.slice A725 (0 + n) cap726 : Value).ownBlock = some kq → wlj1.heap.size ≤ kq from fr736) kq (by rw [← h]; exact e)
              · have := h kq e; omega
            refine F.q (v := .agg #[.int .i64 m, .slice A750 ((0 + n) + 1) c751]) (hr := (r_build rfl (vs := [(0, .int .i64 m), (1, .slice A750 ((0 + n) + 1) c751)]) (by kernel_rfl) (by kernel_rfl))) (h := ?_)
            refine W.ss (v := .agg #[.int .i64 m, .slice A750 ((0 + n) + 1) c751]) (j := 0) (news := [.int .i64 m, .slice A750 ((0 + n) + 1) c751]) (cs' := #[.int .i64 m, .slice A750 ((0 + n) + 1) c751]) s756 rfl (by kernel_rfl) rfl rfl (by kernel_rfl) (by kernel_rfl) x703 (by kernel_rfl) (by kernel_rfl) (by simp) (by kernel_rfl) (by kernel_rfl) (.inr (Nat.le_trans (s67).size (Nat.le_of_eq hb701))) (fun w764 g765 x766 s767 => ?_)
            have x741 := (g765.block _ (blk_lt x741) (fun e9 => ne747 (Option.some.inj e9).symm)).trans x741
            have ho768 := own_grown ho755 g765 (fun j e1 e2 => by cases e2; exact nb761 e1.symm)
            refine F.endF [(2, .pointer (some ⟨b2, 0, none⟩)), (3, .pointer (some ⟨b9, 0, none⟩)), (4, .pointer (some ⟨b17, 0, none⟩)), (5, .bool false), (6, .int .i64 ((k2 : Nat) : Int)), (7, .pointer (some ⟨b699, 0, none⟩))] (fun U769 => ?_)
            have x6 := SG.blk s767 x6 (Option.some_ne_none _)
            have x13 := SG.blk s767 x13 (Option.some_ne_none _)
            have x21 := SG.blk s767 x21 (Option.some_ne_none _)
            have c770 := (SG.belowR c37 s767 (fun kq e => by cases e))
            exact h9 0 _ _ ⟨A750, ((0 + n) + 1), c751, b699, (fun iU9 => lk [(2, .pointer (some ⟨b2, 0, none⟩)), (3, .pointer (some ⟨b9, 0, none⟩)), (4, .pointer (some ⟨b17, 0, none⟩)), (5, .bool false), (6, .int .i64 ((k2 : Nat) : Int)), (7, .pointer (some ⟨b699, 0, none⟩))] iU9 (U769 iU9)), (by kernel_rfl), x6, x13, x21, x766, lo705, ho768, by omega, nb758, nb759, nb760, nb761, ne706, ne707, ne708, c770⟩
          · refine W.sn (fun b => .slice (some ⟨b, 0, none⟩) 1 1) #[.int .i64 x.id, .int .i64 x.fr, .int .i64 x.to, .int .i64 x.sz] 50 s714 rfl (by kernel_rfl) rfl (fun _ => by kernel_rfl) (fun b771 w772 hb773 k774 x775 s776 => ?_)
            refine F.nx ?_
            have lo777 : w.heap.size ≤ b771 := Nat.le_trans ((SG.belowR c37 s714 (fun kq e => by cases e))).size (Nat.le_of_eq hb773)
            have ne778 : b2 ≠ b771 := Nat.ne_of_lt (Nat.lt_of_lt_of_eq (Nat.lt_of_lt_of_le (blk_lt x6) (s714).size) hb773)
            have ne779 : b9 ≠ b771 := Nat.ne_of_lt (Nat.lt_of_lt_of_eq (Nat.lt_of_lt_of_le (blk_lt x13) (s714).size) hb773)
            have ne780 : b17 ≠ b771 := Nat.ne_of_lt (Nat.lt_of_lt_of_eq (Nat.lt_of_lt_of_le (blk_lt x21) (s714).size) hb773)
            have ne781 : b699 ≠ b771 := Nat.ne_of_lt (Nat.lt_of_lt_of_eq (blk_lt x703) hb773)
            have ne782 : b709 ≠ b771 := Nat.ne_of_lt (Nat.lt_of_lt_of_eq (blk_lt x713) hb773)
            have x703 := (k774.block _ (blk_lt x703)).trans x703
            have x713 := (k774.block _ (blk_lt x713)).trans x713
            have ho783 := own_empty (base := w.heap.size) (size := 4) x713 lo715
            replace ho783 : World.ownsRow _ _ _ _ _ _ (pipesV []) := ho783
            have nb784 : Nb b2 (.slice (some ⟨b709, 0, none⟩) 0 0) := nb_new ne716
            have nb785 : Nb b9 (.slice (some ⟨b709, 0, none⟩) 0 0) := nb_new ne717
            have nb786 : Nb b17 (.slice (some ⟨b709, 0, none⟩) 0 0) := nb_new ne718
            have nb787 : Nb b699 (.slice (some ⟨b709, 0, none⟩) 0 0) := nb_new ne719
            have nb788 : Nb b771 (.slice (some ⟨b709, 0, none⟩) 0 0) := nb_new (Ne.symm ne782)
            replace ho783 : World.ownsRow _ _ _ _ _ _ (pipesV []) := ho783
            refine W.sapR (e := 50) (size := 4) (base := w.heap.size) (v := .slice (some ⟨b709, 0, none⟩) 0 0) (A := A) (m := n) (c := c) s776 rfl rfl rfl rfl (by kernel_rfl) (by kernel_rfl) (by kernel_rfl) ho783 (Rd.kept ha (SG.belowR c37 s776 (fun kq e => by cases e))) hf (pipes_one _) (by omega) (by have := ((SG.belowR c37 s776 (fun kq e => by cases e))).size; omega) (.inr (fun kq e => by have := (s704).size; have := hb711; have e' := Option.some.inj e; simp at e'; omega)) (fun A789 cap790 w791 ho792 hg793 hat794 s795 => ?_)
            refine F.nx ?_
            have nb796 : Nb b2 (.slice A789 (0 + n) cap790) := nb_app2 nb784 (Nat.lt_of_lt_of_le (blk_lt x6) (s776).size) hat794
            have nb797 : Nb b9 (.slice A789 (0 + n) cap790) := nb_app2 nb785 (Nat.lt_of_lt_of_le (blk_lt x13) (s776).size) hat794
            have nb798 : Nb b17 (.slice A789 (0 + n) cap790) := nb_app2 nb786 (Nat.lt_of_lt_of_le (blk_lt x21) (s776).size) hat794
            have nb799 : Nb b699 (.slice A789 (0 + n) cap790) := nb_app2 nb787 (blk_lt x703) hat794
            have x703 := (hg793.block _ (blk_lt x703) nb787).trans x703
            have nb800 : Nb b771 (.slice A789 (0 + n) cap790) := nb_app2 nb788 (blk_lt x775) hat794
            have x775 := (hg793.block _ (blk_lt x775) nb788).trans x775
            have ho792 := own_joinP ho792
            have fr801 : ∀ kq, (.slice A789 (0 + n) cap790 : Value).ownBlock = some kq → wlj1.heap.size ≤ kq := fun kq e => by
              have hs := (s776).size
              rcases hat794 with h | h
              · exact (show ∀ kq, Value.ownBlock _ = some kq → wlj1.heap.size ≤ kq from (fun kq e => by have := (s704).size; have := hb711; have e' := Option.some.inj e; simp at e'; omega)) kq (h.symm.trans e)
              · have := Option.some.inj (h.symm.trans e); omega
            refine W.sc (vs := [.slice A789 (0 + n) cap790, .int .i64 ((k2 : Nat) : Int), .slice (some ⟨b771, 0, none⟩) 1 1]) rfl rfl (by kernel_rfl) (by kernel_rfl) (by kernel_rfl) rfl (InsertP_any A789 (0 + n) cap790 k2 b771 w.heap.size ([] ++ ps) x _ ((SG.belowR c37 s795 (fun kq e => by cases e))).size ho792 (by rcases hat794 with h | h <;> rw [h] <;> simp [Value.ownBlock]) x775 nb800 (by omega) (by omega)) ?_
            rintro e w805 ⟨A802, c803, rfl, ho807, g806, hat809⟩
            have s808 := SG.of_grown s795 g806 (.inr fr801)
            refine ⟨_, rfl, s808, ?_⟩
            refine F.nx ?_
            have nb810 : Nb b2 (.slice A802 ((0 + n) + 1) c803) := nb_app3 (v := .slice A789 (0 + n) cap790) nb796 (Nat.lt_of_lt_of_le (blk_lt x6) (s795).size) hat809
            have nb811 : Nb b9 (.slice A802 ((0 + n) + 1) c803) := nb_app3 (v := .slice A789 (0 + n) cap790) nb797 (Nat.lt_of_lt_of_le (blk_lt x13) (s795).size) hat809
            have nb812 : Nb b17 (.slice A802 ((0 + n) + 1) c803) := nb_app3 (v := .slice A789 (0 + n) cap790) nb798 (Nat.lt_of_lt_of_le (blk_lt x21) (s795).size) hat809
            have nb813 : Nb b699 (.slice A802 ((0 + n) + 1) c803) := nb_app3 (v := .slice A789 (0 + n) cap790) nb799 (blk_lt x703) hat809
            have x703 := (g806.block _ (blk_lt x703) nb799).trans x703
            have nb814 : Nb b771 (.slice A802 ((0 + n) + 1) c803) := nb_app3 (v := .slice A789 (0 + n) cap790) nb800 (blk_lt x775) hat809
            have x775 := (g806.block _ (blk_lt x775) nb800).trans x775
            have fr815 : ∀ kq, (.slice A802 ((0 + n) + 1) c803 : Value).ownBlock = some kq → wlj1.heap.size ≤ kq := fun kq e => by
              have hs := (s795).size
              rcases (show (.slice A802 ((0 + n) + 1) c803 : Value).ownBlock = (.slice A789 (0 + n) cap790 : Value).ownBlock ∨ ∀ k9, (.slice A802 ((0 + n) + 1) c803 : Value).ownBlock = some k9 → w791.heap.size ≤ k9 from hat809) with h | h
              · exact (show ∀ kq, (.slice A789 (0 + n) cap790 : Value).ownBlock = some kq → wlj1.heap.size ≤ kq from fr801) kq (by rw [← h]; exact e)
              · have := h kq e; omega
            refine F.q (v := .agg #[.int .i64 m, .slice A802 ((0 + n) + 1) c803]) (hr := (r_build rfl (vs := [(0, .int .i64 m), (1, .slice A802 ((0 + n) + 1) c803)]) (by kernel_rfl) (by kernel_rfl))) (h := ?_)
            refine W.ss (v := .agg #[.int .i64 m, .slice A802 ((0 + n) + 1) c803]) (j := 0) (news := [.int .i64 m, .slice A802 ((0 + n) + 1) c803]) (cs' := #[.int .i64 m, .slice A802 ((0 + n) + 1) c803]) s808 rfl (by kernel_rfl) rfl rfl (by kernel_rfl) (by kernel_rfl) x703 (by kernel_rfl) (by kernel_rfl) (by simp) (by kernel_rfl) (by kernel_rfl) (.inr (Nat.le_trans (s67).size (Nat.le_of_eq hb701))) (fun w816 g817 x818 s819 => ?_)
            have x775 := (g817.block _ (blk_lt x775) (fun e9 => ne781 (Option.some.inj e9).symm)).trans x775
            have ho820 := own_grown ho807 g817 (fun j e1 e2 => by cases e2; exact nb813 e1.symm)
            refine F.endF [(2, .pointer (some ⟨b2, 0, none⟩)), (3, .pointer (some ⟨b9, 0, none⟩)), (4, .pointer (some ⟨b17, 0, none⟩)), (5, .bool false), (6, .int .i64 ((k2 : Nat) : Int)), (7, .pointer (some ⟨b699, 0, none⟩))] (fun U821 => ?_)
            have x6 := SG.blk s819 x6 (Option.some_ne_none _)
            have x13 := SG.blk s819 x13 (Option.some_ne_none _)
            have x21 := SG.blk s819 x21 (Option.some_ne_none _)
            have c822 := (SG.belowR c37 s819 (fun kq e => by cases e))
            exact h9 0 _ _ ⟨A802, ((0 + n) + 1), c803, b699, (fun iU9 => lk [(2, .pointer (some ⟨b2, 0, none⟩)), (3, .pointer (some ⟨b9, 0, none⟩)), (4, .pointer (some ⟨b17, 0, none⟩)), (5, .bool false), (6, .int .i64 ((k2 : Nat) : Int)), (7, .pointer (some ⟨b699, 0, none⟩))] iU9 (U821 iU9)), (by kernel_rfl), x6, x13, x21, x818, lo705, ho820, by omega, nb810, nb811, nb812, nb813, ne706, ne707, ne708, c822⟩
        · refine W.sn (fun b => .slice (some ⟨b, 0, none⟩) 1 1) #[.int .i64 x.id, .int .i64 x.fr, .int .i64 x.to, .int .i64 x.sz] 50 s704 rfl (by kernel_rfl) rfl (fun _ => by kernel_rfl) (fun b823 w824 hb825 k826 x827 s828 => ?_)
          refine F.nx ?_
          have lo829 : w.heap.size ≤ b823 := Nat.le_trans ((SG.belowR c37 s704 (fun kq e => by cases e))).size (Nat.le_of_eq hb825)
          have ne830 : b2 ≠ b823 := Nat.ne_of_lt (Nat.lt_of_lt_of_eq (Nat.lt_of_lt_of_le (blk_lt x6) (s704).size) hb825)
          have ne831 : b9 ≠ b823 := Nat.ne_of_lt (Nat.lt_of_lt_of_eq (Nat.lt_of_lt_of_le (blk_lt x13) (s704).size) hb825)
          have ne832 : b17 ≠ b823 := Nat.ne_of_lt (Nat.lt_of_lt_of_eq (Nat.lt_of_lt_of_le (blk_lt x21) (s704).size) hb825)
          have ne833 : b699 ≠ b823 := Nat.ne_of_lt (Nat.lt_of_lt_of_eq (blk_lt x703) hb825)
          have x703 := (k826.block _ (blk_lt x703)).trans x703
          refine W.sn (fun b => .slice (some ⟨b, 0, none⟩) 0 0) #[] 50 s828 rfl (by kernel_rfl) rfl (fun _ => by kernel_rfl) (fun b834 w835 hb836 k837 x838 s839 => ?_)
          refine F.nx ?_
          have lo840 : w.heap.size ≤ b834 := Nat.le_trans ((SG.belowR c37 s828 (fun kq e => by cases e))).size (Nat.le_of_eq hb836)
          have ne841 : b2 ≠ b834 := Nat.ne_of_lt (Nat.lt_of_lt_of_eq (Nat.lt_of_lt_of_le (blk_lt x6) (s828).size) hb836)
          have ne842 : b9 ≠ b834 := Nat.ne_of_lt (Nat.lt_of_lt_of_eq (Nat.lt_of_lt_of_le (blk_lt x13) (s828).size) hb836)
          have ne843 : b17 ≠ b834 := Nat.ne_of_lt (Nat.lt_of_lt_of_eq (Nat.lt_of_lt_of_le (blk_lt x21) (s828).size) hb836)
          have ne844 : b699 ≠ b834 := Nat.ne_of_lt (Nat.lt_of_lt_of_eq (blk_lt x703) hb836)
          have ne845 : b823 ≠ b834 := Nat.ne_of_lt (Nat.lt_of_lt_of_eq (blk_lt x827) hb836)
          have x703 := (k837.block _ (blk_lt x703)).trans x703
          have x827 := (k837.block _ (blk_lt x827)).trans x827
          have ho846 := own_empty (base := w.heap.size) (size := 4) x838 lo840
          replace ho846 : World.ownsRow _ _ _ _ _ _ (pipesV []) := ho846
          have nb847 : Nb b2 (.slice (some ⟨b834, 0, none⟩) 0 0) := nb_new ne841
          have nb848 : Nb b9 (.slice (some ⟨b834, 0, none⟩) 0 0) := nb_new ne842
          have nb849 : Nb b17 (.slice (some ⟨b834, 0, none⟩) 0 0) := nb_new ne843
          have nb850 : Nb b699 (.slice (some ⟨b834, 0, none⟩) 0 0) := nb_new ne844
          have nb851 : Nb b823 (.slice (some ⟨b834, 0, none⟩) 0 0) := nb_new ne845
          replace ho846 : World.ownsRow _ _ _ _ _ _ (pipesV []) := ho846
          refine W.sapR (e := 50) (size := 4) (base := w.heap.size) (v := .slice (some ⟨b834, 0, none⟩) 0 0) (A := A) (m := n) (c := c) s839 rfl rfl rfl rfl (by kernel_rfl) (by kernel_rfl) (by kernel_rfl) ho846 (Rd.kept ha (SG.belowR c37 s839 (fun kq e => by cases e))) hf (pipes_one _) (by omega) (by have := ((SG.belowR c37 s839 (fun kq e => by cases e))).size; omega) (.inr (fun kq e => by have := (s828).size; have := hb836; have e' := Option.some.inj e; simp at e'; omega)) (fun A852 cap853 w854 ho855 hg856 hat857 s858 => ?_)
          refine F.nx ?_
          have nb859 : Nb b2 (.slice A852 (0 + n) cap853) := nb_app2 nb847 (Nat.lt_of_lt_of_le (blk_lt x6) (s839).size) hat857
          have nb860 : Nb b9 (.slice A852 (0 + n) cap853) := nb_app2 nb848 (Nat.lt_of_lt_of_le (blk_lt x13) (s839).size) hat857
          have nb861 : Nb b17 (.slice A852 (0 + n) cap853) := nb_app2 nb849 (Nat.lt_of_lt_of_le (blk_lt x21) (s839).size) hat857
          have nb862 : Nb b699 (.slice A852 (0 + n) cap853) := nb_app2 nb850 (blk_lt x703) hat857
          have x703 := (hg856.block _ (blk_lt x703) nb850).trans x703
          have nb863 : Nb b823 (.slice A852 (0 + n) cap853) := nb_app2 nb851 (blk_lt x827) hat857
          have x827 := (hg856.block _ (blk_lt x827) nb851).trans x827
          have ho855 := own_joinP ho855
          have fr864 : ∀ kq, (.slice A852 (0 + n) cap853 : Value).ownBlock = some kq → wlj1.heap.size ≤ kq := fun kq e => by
            have hs := (s839).size
            rcases hat857 with h | h
            · exact (show ∀ kq, Value.ownBlock _ = some kq → wlj1.heap.size ≤ kq from (fun kq e => by have := (s828).size; have := hb836; have e' := Option.some.inj e; simp at e'; omega)) kq (h.symm.trans e)
            · have := Option.some.inj (h.symm.trans e); omega
          refine W.sc (vs := [.slice A852 (0 + n) cap853, .int .i64 ((k2 : Nat) : Int), .slice (some ⟨b823, 0, none⟩) 1 1]) rfl rfl (by kernel_rfl) (by kernel_rfl) (by kernel_rfl) rfl (InsertP_any A852 (0 + n) cap853 k2 b823 w.heap.size ([] ++ ps) x _ ((SG.belowR c37 s858 (fun kq e => by cases e))).size ho855 (by rcases hat857 with h | h <;> rw [h] <;> simp [Value.ownBlock]) x827 nb863 (by omega) (by omega)) ?_
          rintro e w868 ⟨A865, c866, rfl, ho870, g869, hat872⟩
          have s871 := SG.of_grown s858 g869 (.inr fr864)
          refine ⟨_, rfl, s871, ?_⟩
          refine F.nx ?_
          have nb873 : Nb b2 (.slice A865 ((0 + n) + 1) c866) := nb_app3 (v := .slice A852 (0 + n) cap853) nb859 (Nat.lt_of_lt_of_le (blk_lt x6) (s858).size) hat872
          have nb874 : Nb b9 (.slice A865 ((0 + n) + 1) c866) := nb_app3 (v := .slice A852 (0 + n) cap853) nb860 (Nat.lt_of_lt_of_le (blk_lt x13) (s858).size) hat872
          have nb875 : Nb b17 (.slice A865 ((0 + n) + 1) c866) := nb_app3 (v := .slice A852 (0 + n) cap853) nb861 (Nat.lt_of_lt_of_le (blk_lt x21) (s858).size) hat872
          have nb876 : Nb b699 (.slice A865 ((0 + n) + 1) c866) := nb_app3 (v := .slice A852 (0 + n) cap853) nb862 (blk_lt x703) hat872
          have x703 := (g869.block _ (blk_lt x703) nb862).trans x703
          have nb877 : Nb b823 (.slice A865 ((0 + n) + 1) c866) := nb_app3 (v := .slice A852 (0 + n) cap853) nb863 (blk_lt x827) hat872
          have x827 := (g869.block _ (blk_lt x827) nb863).trans x827
          have fr878 : ∀ kq, (.slice A865 ((0 + n) + 1) c866 : Value).ownBlock = some kq → wlj1.heap.size ≤ kq := fun kq e => by
            have hs := (s858).size
            rcases (show (.slice A865 ((0 + n) + 1) c866 : Value).ownBlock = (.slice A852 (0 + n) cap853 : Value).ownBlock ∨ ∀ k9, (.slice A865 ((0 + n) + 1) c866 : Value).ownBlock = some k9 → w854.heap.size ≤ k9 from hat872) with h | h
            · exact (show ∀ kq, (.slice A852 (0 + n) cap853 : Value).ownBlock = some kq → wlj1.heap.size ≤ kq from fr864) kq (by rw [← h]; exact e)
            · have := h kq e; omega
          refine F.q (v := .agg #[.int .i64 m, .slice A865 ((0 + n) + 1) c866]) (hr := (r_build rfl (vs := [(0, .int .i64 m), (1, .slice A865 ((0 + n) + 1) c866)]) (by kernel_rfl) (by kernel_rfl))) (h := ?_)
          refine W.ss (v := .agg #[.int .i64 m, .slice A865 ((0 + n) + 1) c866]) (j := 0) (news := [.int .i64 m, .slice A865 ((0 + n) + 1) c866]) (cs' := #[.int .i64 m, .slice A865 ((0 + n) + 1) c866]) s871 rfl (by kernel_rfl) rfl rfl (by kernel_rfl) (by kernel_rfl) x703 (by kernel_rfl) (by kernel_rfl) (by simp) (by kernel_rfl) (by kernel_rfl) (.inr (Nat.le_trans (s67).size (Nat.le_of_eq hb701))) (fun w879 g880 x881 s882 => ?_)
          have x827 := (g880.block _ (blk_lt x827) (fun e9 => ne833 (Option.some.inj e9).symm)).trans x827
          have ho883 := own_grown ho870 g880 (fun j e1 e2 => by cases e2; exact nb876 e1.symm)
          refine F.endF [(2, .pointer (some ⟨b2, 0, none⟩)), (3, .pointer (some ⟨b9, 0, none⟩)), (4, .pointer (some ⟨b17, 0, none⟩)), (5, .bool false), (6, .int .i64 ((k2 : Nat) : Int)), (7, .pointer (some ⟨b699, 0, none⟩))] (fun U884 => ?_)
          have x6 := SG.blk s882 x6 (Option.some_ne_none _)
          have x13 := SG.blk s882 x13 (Option.some_ne_none _)
          have x21 := SG.blk s882 x21 (Option.some_ne_none _)
          have c885 := (SG.belowR c37 s882 (fun kq e => by cases e))
          exact h9 0 _ _ ⟨A865, ((0 + n) + 1), c866, b699, (fun iU9 => lk [(2, .pointer (some ⟨b2, 0, none⟩)), (3, .pointer (some ⟨b9, 0, none⟩)), (4, .pointer (some ⟨b17, 0, none⟩)), (5, .bool false), (6, .int .i64 ((k2 : Nat) : Int)), (7, .pointer (some ⟨b699, 0, none⟩))] iU9 (U884 iU9)), (by kernel_rfl), x6, x13, x21, x881, lo705, ho883, by omega, nb873, nb874, nb875, nb876, ne706, ne707, ne708, c885⟩
    intro K10 h10
    refine wp_block ?_
    refine loopK (fun am0 aa0 wl0 => ∃ (k : Nat) (U0 : Nat → Value), aa0 = ⟨(fr U0 [(0, .agg #[.int .i64 m, .slice A n c]), (1, .agg #[.int .i64 x.id, .int .i64 x.fr, .int .i64 x.to, .int .i64 x.sz]), (2, .pointer (some ⟨b2, 0, none⟩)), (3, .pointer (some ⟨b9, 0, none⟩)), (4, .pointer (some ⟨b17, 0, none⟩)), (5, .bool false), (6, .int .i64 ((k : Nat) : Int)), (10, .bool false)] 46 0).toArray, []⟩ ∧ (am0 = n - k) ∧ (k ≤ n) ∧ (∀ j z, j < k → ps[j]? = some z → z.id < x.id) ∧ (wl0.heap[b2]? = some (.cells #[.int .i64 m, .slice A n c] 29 (0, 0))) ∧ (wl0.heap[b9]? = some (.cells #[.int .i64 x.id, .int .i64 x.fr, .int .i64 x.to, .int .i64 x.sz] 50 (0, 0))) ∧ (wl0.heap[b17]? = some (.cells #[.int .i64 0, .slice none 0 0] 29 (0, 0))) ∧ (Below w.heap.size w wl0)) (n - 0) ?_ ?_
    · exact ⟨0, (fun iU9 => lk [(0, .agg #[.int .i64 m, .slice A n c]), (1, .agg #[.int .i64 x.id, .int .i64 x.fr, .int .i64 x.to, .int .i64 x.sz]), (2, .pointer (some ⟨b2, 0, none⟩)), (3, .pointer (some ⟨b9, 0, none⟩)), (4, .pointer (some ⟨b17, 0, none⟩)), (5, .bool false), (6, .int .i64 0), (10, .bool false)] iU9 (U36 iU9)), (by kernel_rfl), rfl, (Nat.zero_le _), (fun j z hj => absurd hj (by omega)), x6, x13, x21, c35⟩
    rintro am0 aa0 wl0 K11 h11 ⟨k, U0, rfl, rfl, hk, hpre, x6, x13, x21, c886⟩
    refine wp_seq_k (fun K12 h12 => ?_)
    refine wp_seq_k (fun K13 h13 => ?_)
    refine W.region_sch (row := none) (Sch.of [(0, false), (1, false), (2, false), (3, false), (4, false), (5, false), (6, false), (7, false), (8, false), (9, false), (10, false), (11, false), (12, false), (13, false), (14, false), (15, false)]) (by kernel_rfl) (by kernel_rfl) (fun _ d _ _ _ h => by cases d <;> exact h) (by kernel_rfl) (fun w887 e888 s889 => ?_)
    refine F.mv (v := .int .i64 ((k : Nat) : Int)) (h := ?_)
    refine F.q (v := .pointer (some ⟨b2, 1, none⟩)) (hr := (r_field (k := 1) rfl (ev_any (by kernel_rfl)) (by kernel_rfl))) (h := ?_)
    refine F.ld (v := .slice A n c) (hc := (sgS (blk_cell (j := 1) x6 (by kernel_rfl)) (Option.some_ne_none _))) (h := ?_)
    refine F.q (v := .int .i64 ((n : Nat) : Int)) (hr := (r_len (A := A) (n := n) (c := c) rfl (ev_any (by kernel_rfl)) (by kernel_rfl))) (h := ?_)
    by_cases q890 : (((k : Nat) : Int) : Int) < (((n : Nat) : Int) : Int)
    · refine F.q (v := .bool true) (hr := (r_lss (m := ((k : Nat) : Int)) (n := ((n : Nat) : Int)) rfl (ev_any (by kernel_rfl)) (ev_any (by kernel_rfl)) (decide_eq_true q890))) (h := ?_)
      refine F.mv (v := .bool true) (h := ?_)
      refine F.q (v := .pointer (some ⟨b2, 1, none⟩)) (hr := (r_field (k := 1) rfl (ev_any (by kernel_rfl)) (by kernel_rfl))) (h := ?_)
      refine F.ld (v := .slice A n c) (hc := (sgS (blk_cell (j := 1) x6 (by kernel_rfl)) (Option.some_ne_none _))) (h := ?_)
      refine F.mv (v := .int .i64 ((k : Nat) : Int)) (h := ?_)
      obtain ⟨x891, hx892⟩ := get_of (zs := ps) (k := k) (by have := hl; omega)
      obtain ⟨b893, o894, hA895, hb896, hc897, hc898, hc899, hc900⟩ := Rd.elPipe ha hx892
      refine F.q (v := .pointer (some ⟨b893, o894 + k * 4, none⟩)) (hr := (r_idx (n := n) (c := c) (k := k) rfl (ev_any (by kernel_rfl)) hA895 (by kernel_rfl) (by kernel_rfl) (by have := hl; omega))) (h := ?_)
      refine F.q (v := .pointer (some ⟨b893, o894 + k * 4, none⟩)) (hr := (r_field0 rfl (ev_any (by kernel_rfl)) (by kernel_rfl))) (h := ?_)
      refine F.ld (v := .int .i64 x891.id) (hc := (sgS (later c886 hc897) (by simp))) (h := ?_)
      refine F.q (v := .pointer (some ⟨b9, 0, none⟩)) (hr := (r_field0 rfl (ev_any (by kernel_rfl)) (by kernel_rfl))) (h := ?_)
      refine F.ld (v := .int .i64 x.id) (hc := (sgS (blk_cell (j := 0) x13 (by kernel_rfl)) (Option.some_ne_none _))) (h := ?_)
      by_cases q901 : (x891.id : Int) < (x.id : Int)
      · refine F.q (v := .bool true) (hr := (r_lss (m := x891.id) (n := x.id) rfl (ev_any (by kernel_rfl)) (ev_any (by kernel_rfl)) (decide_eq_true q901))) (h := ?_)
        refine F.q (v := .bool true) (hr := (r_pick (b := true) rfl (ev_any (by kernel_rfl)) (ev_any (by kernel_rfl)))) (h := ?_)
        refine F.endF [(0, .agg #[.int .i64 m, .slice A n c]), (1, .agg #[.int .i64 x.id, .int .i64 x.fr, .int .i64 x.to, .int .i64 x.sz]), (2, .pointer (some ⟨b2, 0, none⟩)), (3, .pointer (some ⟨b9, 0, none⟩)), (4, .pointer (some ⟨b17, 0, none⟩)), (5, .bool false), (6, .int .i64 ((k : Nat) : Int)), (10, .bool false), (27, .bool true)] (fun U902 => ?_)
        have x6 := SG.blk s889 x6 (Option.some_ne_none _)
        have x13 := SG.blk s889 x13 (Option.some_ne_none _)
        have x21 := SG.blk s889 x21 (Option.some_ne_none _)
        have c903 := (SG.belowR c886 s889 (fun kq e => by cases e))
        refine h13 _ _ ?_
        as_aux_lemma =>
          refine wp_cond_true (by kernel_rfl) ?_
          refine wp_skip ?_
          refine h12 _ _ ?_
          refine wp_block ?_
          refine W.region_quiet [(0, false), (1, false), (2, false)] (by kernel_rfl) ?_
          refine F.mv (v := .int .i64 ((k : Nat) : Int)) (h := ?_)
          refine F.q (v := .int .i64 ((k + 1 : Nat) : Int)) (hr := (r_add (m := ((k : Nat) : Int)) (n := 1) (z := ((k + 1 : Nat) : Int)) rfl (ev_any (by kernel_rfl)) (ev_any (by kernel_rfl)) (by omega) (by omega))) (h := ?_)
          refine F.as (v := .int .i64 ((k + 1 : Nat) : Int)) (h := ?_)
          refine F.endF [(0, .agg #[.int .i64 m, .slice A n c]), (1, .agg #[.int .i64 x.id, .int .i64 x.fr, .int .i64 x.to, .int .i64 x.sz]), (2, .pointer (some ⟨b2, 0, none⟩)), (3, .pointer (some ⟨b9, 0, none⟩)), (4, .pointer (some ⟨b17, 0, none⟩)), (5, .bool false), (6, .int .i64 ((k + 1 : Nat) : Int)), (10, .bool false), (27, .bool true)] (fun U904 => ?_)
          exact h11 _ _ _ (by omega : (n - (k + 1)) < _) ⟨k + 1, (fun iU9 => lk [(0, .agg #[.int .i64 m, .slice A n c]), (1, .agg #[.int .i64 x.id, .int .i64 x.fr, .int .i64 x.to, .int .i64 x.sz]), (2, .pointer (some ⟨b2, 0, none⟩)), (3, .pointer (some ⟨b9, 0, none⟩)), (4, .pointer (some ⟨b17, 0, none⟩)), (5, .bool false), (6, .int .i64 ((k + 1 : Nat) : Int)), (10, .bool false), (27, .bool true)] iU9 (U904 iU9)), (by kernel_rfl), rfl, (by omega), (upto_succ (Q := fun z => z.id < x.id) hpre hx892 (by omega)), x6, x13, x21, c903⟩
      · refine F.q (v := .bool false) (hr := (r_lss (m := x891.id) (n := x.id) rfl (ev_any (by kernel_rfl)) (ev_any (by kernel_rfl)) (decide_eq_false q901))) (h := ?_)
        refine F.q (v := .bool false) (hr := (r_pick (b := true) rfl (ev_any (by kernel_rfl)) (ev_any (by kernel_rfl)))) (h := ?_)
        refine F.endF [(0, .agg #[.int .i64 m, .slice A n c]), (1, .agg #[.int .i64 x.id, .int .i64 x.fr, .int .i64 x.to, .int .i64 x.sz]), (2, .pointer (some ⟨b2, 0, none⟩)), (3, .pointer (some ⟨b9, 0, none⟩)), (4, .pointer (some ⟨b17, 0, none⟩)), (5, .bool false), (6, .int .i64 ((k : Nat) : Int)), (10, .bool false), (27, .bool false)] (fun U905 => ?_)
        have x6 := SG.blk s889 x6 (Option.some_ne_none _)
        have x13 := SG.blk s889 x13 (Option.some_ne_none _)
        have x21 := SG.blk s889 x21 (Option.some_ne_none _)
        have c906 := (SG.belowR c886 s889 (fun kq e => by cases e))
        refine h13 _ _ ?_
        refine wp_cond_false (by kernel_rfl) ?_
        refine wp_exit ?_
        have hkk9 : insAtP ps x.id = k := insAtP_at hpre (by omega) (fun z9 hz9 => by rw [hx892] at hz9; cases hz9; omega)
        exact h10 _ _ _ ⟨k, (fun iU9 => lk [(0, .agg #[.int .i64 m, .slice A n c]), (1, .agg #[.int .i64 x.id, .int .i64 x.fr, .int .i64 x.to, .int .i64 x.sz]), (2, .pointer (some ⟨b2, 0, none⟩)), (3, .pointer (some ⟨b9, 0, none⟩)), (4, .pointer (some ⟨b17, 0, none⟩)), (5, .bool false), (6, .int .i64 ((k : Nat) : Int)), (10, .bool false), (27, .bool false)] iU9 (U905 iU9)), (by kernel_rfl), rfl, (by omega), hkk9, x6, x13, x21, c906⟩
    · refine F.q (v := .bool false) (hr := (r_lss (m := ((k : Nat) : Int)) (n := ((n : Nat) : Int)) rfl (ev_any (by kernel_rfl)) (ev_any (by kernel_rfl)) (decide_eq_false q890))) (h := ?_)
      refine F.mv (v := .bool false) (h := ?_)
      refine F.sp s889 (h := ?_)
      refine F.sp s889 (h := ?_)
      refine F.sp s889 (h := ?_)
      refine F.sp s889 (h := ?_)
      refine F.sp s889 (h := ?_)
      refine F.sp s889 (h := ?_)
      refine F.sp s889 (h := ?_)
      refine F.sp s889 (h := ?_)
      refine F.sp s889 (h := ?_)
      refine F.q (v := .bool false) (hr := (r_pick (b := false) rfl (ev_any (by kernel_rfl)) (ev_any (by kernel_rfl)))) (h := ?_)
      refine F.endF [(0, .agg #[.int .i64 m, .slice A n c]), (1, .agg #[.int .i64 x.id, .int .i64 x.fr, .int .i64 x.to, .int .i64 x.sz]), (2, .pointer (some ⟨b2, 0, none⟩)), (3, .pointer (some ⟨b9, 0, none⟩)), (4, .pointer (some ⟨b17, 0, none⟩)), (5, .bool false), (6, .int .i64 ((k : Nat) : Int)), (10, .bool false), (27, .bool false)] (fun U907 => ?_)
      have x6 := SG.blk s889 x6 (Option.some_ne_none _)
      have x13 := SG.blk s889 x13 (Option.some_ne_none _)
      have x21 := SG.blk s889 x21 (Option.some_ne_none _)
      have c908 := (SG.belowR c886 s889 (fun kq e => by cases e))
      refine h13 _ _ ?_
      refine wp_cond_false (by kernel_rfl) ?_
      refine wp_exit ?_
      have hkk9 : insAtP ps x.id = k := insAtP_at hpre (by omega) (fun z9 hz9 => by have h8 := (List.getElem?_eq_some_iff.1 hz9).1; omega)
      exact h10 _ _ _ ⟨k, (fun iU9 => lk [(0, .agg #[.int .i64 m, .slice A n c]), (1, .agg #[.int .i64 x.id, .int .i64 x.fr, .int .i64 x.to, .int .i64 x.sz]), (2, .pointer (some ⟨b2, 0, none⟩)), (3, .pointer (some ⟨b9, 0, none⟩)), (4, .pointer (some ⟨b17, 0, none⟩)), (5, .bool false), (6, .int .i64 ((k : Nat) : Int)), (10, .bool false), (27, .bool false)] iU9 (U907 iU9)), (by kernel_rfl), rfl, (by omega), hkk9, x6, x13, x21, c908⟩
  · rw [q32]
    refine F.q (v := .bool true) (hr := (r_not (b := false) rfl (ev_any (by kernel_rfl)) rfl)) (h := ?_)
    refine F.endF [(0, .agg #[.int .i64 m, .slice A n c]), (1, .agg #[.int .i64 x.id, .int .i64 x.fr, .int .i64 x.to, .int .i64 x.sz]), (2, .pointer (some ⟨b2, 0, none⟩)), (3, .pointer (some ⟨b9, 0, none⟩)), (4, .pointer (some ⟨b17, 0, none⟩)), (5, .bool false), (10, .bool true)] (fun U909 => ?_)
    have x6 := SG.blk s31 x6 (Option.some_ne_none _)
    have x13 := SG.blk s31 x13 (Option.some_ne_none _)
    have x21 := SG.blk s31 x21 (Option.some_ne_none _)
    have c910 := (SG.belowR c27 s31 (fun kq e => by cases e))
    refine h3 _ _ ?_
    refine wp_cond_true (by kernel_rfl) ?_
    refine wp_seq_k (fun K14 h14 => ?_)
    refine W.region_plain (row := (some b17)) [(0, false), (1, true), (2, false)] (by kernel_rfl) ?_
    have s911 := SG.self w30 (some b17)
    refine F.q (v := .agg #[.int .i64 0, .slice none 0 0]) (hr := (r_build rfl (vs := []) (by kernel_rfl) (by kernel_rfl))) (h := ?_)
    refine W.ss (v := .agg #[.int .i64 0, .slice none 0 0]) (j := 0) (news := [.int .i64 0, .slice none 0 0]) (cs' := #[.int .i64 0, .slice none 0 0]) s911 rfl (by kernel_rfl) rfl rfl (by kernel_rfl) (by kernel_rfl) x21 (by kernel_rfl) (by kernel_rfl) (by simp) (by kernel_rfl) (by kernel_rfl) (.inl rfl) (fun w912 g913 x914 s915 => ?_)
    refine F.as (v := .bool false) (h := ?_)
    refine F.endF [(0, .agg #[.int .i64 m, .slice A n c]), (1, .agg #[.int .i64 x.id, .int .i64 x.fr, .int .i64 x.to, .int .i64 x.sz]), (2, .pointer (some ⟨b2, 0, none⟩)), (3, .pointer (some ⟨b9, 0, none⟩)), (4, .pointer (some ⟨b17, 0, none⟩)), (5, .bool false), (10, .bool true)] (fun U916 => ?_)
    have x6 := SG.blk s915 x6 (fun e9 => ne24 (Option.some.inj e9))
    have x13 := SG.blk s915 x13 (fun e9 => ne25 (Option.some.inj e9))
    have c917 := (SG.belowR c910 s915 (fun kq e => by cases e; exact lo23))
    refine h14 _ _ ?_
    as_aux_lemma =>
      refine wp_ret ?_
      try simp only [Exit.then]
      refine retCT (x := .bool false) rfl (by kernel_rfl) (by kernel_rfl) (by kernel_rfl) (by kernel_rfl) x914 ?_
      exact fin_net (zs := []) (World.ownsRow_nil _ _ _ _) (add_no q32).2.2.symm (add_no q32).2.1.symm (add_no q32).1.symm c917

end Go.Proofs.Ytmfapokolgnnhaa
