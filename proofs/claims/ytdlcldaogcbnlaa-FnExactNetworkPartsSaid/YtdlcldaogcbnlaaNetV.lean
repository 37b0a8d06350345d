/- A network is valid: the program's own test. -/
import Derived.Test.YtdlcldaogcbnlaaNetA
namespace Go.Proofs.Ytdlcldaogcbnlaa
open Go.RowKit
set_option linter.unusedVariables false

set_option maxRecDepth 100000 in
set_option maxHeartbeats 1000000 in
theorem IsValid_any (m : Int) (A : Option Addr) (n c : Nat) (ps : List Pp) (w : World) (ha : Rd w 4 A n (pipesV ps)) (hn : n ≤ 1048576) :
    Calls Try.prog 36 #[.agg #[.int .i64 m, .slice A n c]] w fun e w' => e = .returned (.bool (goodN m ps)) ∧ Below w.heap.size w w' := by
  have hl := rd_pipes_len ha
  go_enter Try.func36, Try.ntmps36
  refine wp_seq_k (fun K1 h1 => ?_)
  refine region_plain (row := none) [(0, true), (1, false)] rfl ?_
  have s1 := SG.self w none
  refine sn (fun b => .pointer (some ⟨b, 0, none⟩)) #[.int .i64 m, .slice A n c] 31 s1 rfl rfl rfl (fun _ => by kernel_rfl) (fun b2 w3 hb4 k5 x6 s7 => ?_)
  have lo8 : w.heap.size ≤ b2 := by have := ((SG.belowR (Below.refl _ _) s1 (fun kq e => by cases e))).size; omega
  refine sq (v := .bool false) rfl (r_assign rfl rfl) rfl rfl rfl ?_
  refine sch_end ?_
  simp only [List.set_cons_zero, List.set_cons_succ]
  have c9 := (SG.belowR (Below.refl _ _) s7 (fun kq e => by cases e))
  refine h1 _ _ ?_
  refine wp_seq_k (fun K2 h2 => ?_)
  refine wp_seq_k (fun K3 h3 => ?_)
  refine region_plain (row := none) [(0, false), (1, false), (2, true), (3, false), (4, false), (5, false), (6, false), (7, false), (8, false), (9, false)] rfl ?_
  have s10 := SG.self w3 none
  refine sq (v := .pointer (some ⟨b2, 0, none⟩)) rfl (r_field0 rfl rfl (by kernel_rfl)) rfl rfl rfl ?_
  refine sq (v := .int .i64 m) rfl (r_load rfl rfl (by kernel_rfl) (sgS (blk_cell (j := 0) x6 rfl) (by simp))) rfl rfl rfl ?_
  refine sc (vs := [.int .i64 m, .int .i64 1, .int .i64 8]) rfl rfl rfl (by kernel_rfl) rfl rfl (inside_any m 1 8 _) ?_
  rintro e w' ⟨rfl, rfl⟩
  refine ⟨_, rfl, s10, ?_⟩
  rcases Bool.eq_false_or_eq_true (inB m 1 8) with q13 | q13
  · rw [q13]
    refine sq (v := .bool false) rfl (r_not rfl rfl rfl) rfl rfl rfl ?_
    refine sq (v := .bool false) rfl (r_move rfl rfl) rfl rfl rfl ?_
    simp only [List.set_cons_zero, List.set_cons_succ]
    refine sq (v := .pointer (some ⟨b2, 1, none⟩)) rfl (r_field (k := 1) rfl rfl (by kernel_rfl)) rfl rfl rfl ?_
    refine sq (v := .slice A n c) rfl (r_load rfl rfl (by kernel_rfl) (sgS (blk_cell (j := 1) x6 rfl) (by simp))) rfl rfl rfl ?_
    refine sq (v := .int .i64 ((n : Nat) : Int)) rfl (r_len rfl rfl (by kernel_rfl)) rfl rfl rfl ?_
    by_cases q14 : (((n : Nat) : Int) : Int) > (10 : Int)
    · refine sq (v := .bool true) rfl (r_gtr rfl rfl rfl (decide_eq_true q14)) rfl rfl rfl ?_
      refine sq (v := .bool true) rfl (r_pick rfl rfl rfl) rfl rfl rfl ?_
      simp only [List.set_cons_zero, List.set_cons_succ]
      refine sch_end ?_
      have x6 := SG.blk s10 x6 (by simp)
      have c15 := (SG.belowR c9 s10 (fun kq e => by cases e))
      refine h3 _ _ ?_
      refine wp_cond_true rfl ?_
      refine wp_seq_k (fun K4 h4 => ?_)
      refine region_quiet [(0, false)] rfl ?_
      refine sq (v := .bool false) rfl (r_assign rfl rfl) rfl rfl rfl ?_
      refine sch_end ?_
      simp only [List.set_cons_zero, List.set_cons_succ]
      refine h4 _ _ ?_
      refine wp_ret ?_
      try simp only [Exit.then]
      refine ret1 rfl rfl ?_
      exact ⟨ret_bool (goodN_out hl (by simp [q13]; omega)).symm, c15⟩
    · refine sq (v := .bool false) rfl (r_gtr rfl rfl rfl (decide_eq_false q14)) rfl rfl rfl ?_
      refine sq (v := .bool false) rfl (r_pick rfl rfl rfl) rfl rfl rfl ?_
      simp only [List.set_cons_zero, List.set_cons_succ]
      refine sch_end ?_
      have x6 := SG.blk s10 x6 (by simp)
      have c16 := (SG.belowR c9 s10 (fun kq e => by cases e))
      refine h3 _ _ ?_
      refine wp_cond_false rfl ?_
      refine wp_skip ?_
      refine h2 _ _ ?_
      refine wp_seq_k (fun K5 h5 => ?_)
      refine wp_seq_k (fun K6 h6 => ?_)
      refine region_quiet [(0, false), (1, false), (2, false), (3, false)] rfl ?_
      refine sq (v := .pointer (some ⟨b2, 1, none⟩)) rfl (r_field (k := 1) rfl rfl (by kernel_rfl)) rfl rfl rfl ?_
      refine sq (v := .slice A n c) rfl (r_load rfl rfl (by kernel_rfl) (eqS (blk_cell (j := 1) x6 rfl))) rfl rfl rfl ?_
      refine sq (v := .int .i64 ((n : Nat) : Int)) rfl (r_len rfl rfl (by kernel_rfl)) rfl rfl rfl ?_
      refine sq (v := .int .i64 0) rfl (r_move rfl rfl) rfl rfl rfl ?_
      refine sch_end ?_
      simp only [List.set_cons_zero, List.set_cons_succ]
      refine h6 _ _ ?_
      refine wp_block ?_
      refine loopK (fun am0 aa0 wl0 => ∃ (K : Nat) (u0_3 u0_4 u0_19 u0_20 u0_21 u0_22 u0_23 u0_24 u0_25 u0_26 u0_27 u0_28 u0_29 u0_30 u0_31 u0_32 u0_33 u0_34 u0_35 u0_36 u0_37 u0_38 u0_39 u0_40 u0_41 u0_42 u0_43 u0_44 u0_45 u0_46 u0_47 u0_48 u0_49 u0_50 u0_51 u0_52 u0_53 u0_54 u0_55 u0_56 u0_57 u0_58 u0_59 u0_60 u0_61 u0_62 u0_63 u0_64 u0_65 u0_66 u0_67 u0_68 u0_69 u0_70 : Value), aa0 = ⟨[.agg #[.int .i64 m, .slice A n c], .pointer (some ⟨b2, 0, none⟩), .bool false, u0_3, u0_4, .pointer (some ⟨b2, 0, none⟩), .int .i64 m, .bool true, .bool false, .bool false, .pointer (some ⟨b2, 1, none⟩), .slice A n c, .int .i64 ((n : Nat) : Int), .bool false, .bool false, .pointer (some ⟨b2, 1, none⟩), .slice A n c, .int .i64 ((n : Nat) : Int), .int .i64 ((K : Nat) : Int), u0_19, u0_20, u0_21, u0_22, u0_23, u0_24, u0_25, u0_26, u0_27, u0_28, u0_29, u0_30, u0_31, u0_32, u0_33, u0_34, u0_35, u0_36, u0_37, u0_38, u0_39, u0_40, u0_41, u0_42, u0_43, u0_44, u0_45, u0_46, u0_47, u0_48, u0_49, u0_50, u0_51, u0_52, u0_53, u0_54, u0_55, u0_56, u0_57, u0_58, u0_59, u0_60, u0_61, u0_62, u0_63, u0_64, u0_65, u0_66, u0_67, u0_68, u0_69, u0_70].toArray, []⟩ ∧ (am0 = n - K) ∧ (K ≤ n) ∧ (okTo m ps K = true) ∧ (wl0.heap[b2]? = some (.cells #[.int .i64 m, .slice A n c] 31 (0, 0))) ∧ (Below w.heap.size w wl0)) (n - 0) ?_ ?_
      · exact ⟨0, _, _, _, _, _, _, _, _, _, _, _, _, _, _, _, _, _, _, _, _, _, _, _, _, _, _, _, _, _, _, _, _, _, _, _, _, _, _, _, _, _, _, _, _, _, _, _, _, _, _, _, _, _, _, rfl, rfl, (Nat.zero_le _), rfl, x6, c16⟩
      rintro am0 aa0 wl0 K7 h7 ⟨K, u0_3, u0_4, u0_19, u0_20, u0_21, u0_22, u0_23, u0_24, u0_25, u0_26, u0_27, u0_28, u0_29, u0_30, u0_31, u0_32, u0_33, u0_34, u0_35, u0_36, u0_37, u0_38, u0_39, u0_40, u0_41, u0_42, u0_43, u0_44, u0_45, u0_46, u0_47, u0_48, u0_49, u0_50, u0_51, u0_52, u0_53, u0_54, u0_55, u0_56, u0_57, u0_58, u0_59, u0_60, u0_61, u0_62, u0_63, u0_64, u0_65, u0_66, u0_67, u0_68, u0_69, u0_70, rfl, rfl, hk, hok, x6, c17⟩
      refine wp_seq_k (fun K8 h8 => ?_)
      refine region_quiet [(0, false)] rfl ?_
      by_cases q18 : (((K : Nat) : Int) : Int) < (((n : Nat) : Int) : Int)
      · refine sq (v := .bool true) rfl (r_lss rfl rfl rfl (decide_eq_true q18)) rfl rfl rfl ?_
        refine sch_end ?_
        simp only [List.set_cons_zero, List.set_cons_succ]
        refine h8 _ _ ?_
        refine wp_seq_k (fun K9 h9 => ?_)
        refine wp_cond_true rfl ?_
        refine wp_skip ?_
        refine h9 _ _ ?_
        refine wp_seq_k (fun K10 h10 => ?_)
        refine wp_block ?_
        refine wp_seq_k (fun K11 h11 => ?_)
        refine region_plain (row := none) [(0, false), (1, false), (2, false), (3, true), (4, false), (5, true)] rfl ?_
        have s19 := SG.self wl0 none
        refine sq (v := .int .i64 ((K : Nat) : Int)) rfl (r_move rfl rfl) rfl rfl rfl ?_
        obtain ⟨x20, hx21⟩ := get_of (zs := ps) (k := K) (by have := hl; omega)
        obtain ⟨b22, o23, hA24, hb25, hc26, hc27, hc28, hc29⟩ := Rd.elPipe ha hx21
        refine sq (v := .pointer (some ⟨b22, o23 + K * 4, none⟩)) rfl (r_idx (k := K) rfl rfl hA24 rfl (by kernel_rfl) (by have := hl; omega)) rfl rfl rfl ?_
        refine sq (v := .agg #[.int .i64 x20.id, .int .i64 x20.fr, .int .i64 x20.to, .int .i64 x20.sz]) rfl (r_load4 rfl rfl (by kernel_rfl) (by kernel_rfl) (sgS (later c17 hc26) (by simp)) (sgS (later c17 hc27) (by simp)) (sgS (later c17 hc28) (by simp)) (sgS (later c17 hc29) (by simp))) rfl rfl rfl ?_
        refine sn (fun b => .pointer (some ⟨b, 0, none⟩)) #[.int .i64 0, .int .i64 0, .int .i64 0, .int .i64 0] 51 s19 rfl rfl rfl (fun _ => by kernel_rfl) (fun b30 w31 hb32 k33 x34 s35 => ?_)
        have lo36 : w.heap.size ≤ b30 := by have := ((SG.belowR c17 s19 (fun kq e => by cases e))).size; omega
        have ne37 : b2 ≠ b30 := by have := blk_lt x6; have := World.grownBy.size s19; omega
        refine sq (v := .int .i64 ((K : Nat) : Int)) rfl (r_assign rfl rfl) rfl rfl rfl ?_
        simp only [List.set_cons_zero, List.set_cons_succ]
        refine ss (j := 0) (news := [.int .i64 x20.id, .int .i64 x20.fr, .int .i64 x20.to, .int .i64 x20.sz]) (cs' := #[.int .i64 x20.id, .int .i64 x20.fr, .int .i64 x20.to, .int .i64 x20.sz]) s35 rfl rfl rfl rfl rfl rfl x34 rfl (by kernel_rfl) (by simp) rfl rfl (.inr (by have := World.grownBy.size s19; have := hb32; omega)) (fun w38 g39 x40 s41 => ?_)
        refine sch_end ?_
        have x6 := SG.blk s41 x6 (by simp)
        have c42 := (SG.belowR c17 s41 (fun kq e => by cases e))
        refine h11 _ _ ?_
        refine wp_seq_k (fun K12 h12 => ?_)
        refine region_sch (row := none) (Sch.of [(0, false), (1, false), (2, true), (3, false), (4, false), (5, false), (6, false), (7, false), (8, true), (9, false), (10, false), (11, false), (12, false), (13, false), (14, false), (15, true), (16, false), (17, false), (18, false), (19, false), (20, false), (21, false), (22, false), (23, false), (24, false), (25, false), (26, false), (27, false), (28, true), (29, false), (30, false), (31, false), (32, false), (33, false), (34, false), (35, false), (36, false), (37, false), (38, false), (39, false), (40, false), (41, false), (42, false), (43, false), (44, false), (45, false), (46, false)]) (by kernel_rfl) (by kernel_rfl) (fun _ d _ _ _ h => by cases d <;> exact h) (by kernel_rfl) (fun w43 e44 s45 => ?_)
        refine sq (v := .pointer (some ⟨b30, 0, none⟩)) rfl (r_field0 rfl rfl (by kernel_rfl)) rfl rfl rfl ?_
        refine sq (v := .int .i64 x20.id) rfl (r_load rfl rfl (by kernel_rfl) (sgS (blk_cell (j := 0) x40 rfl) (by simp))) rfl rfl rfl ?_
        refine sc (vs := [.int .i64 x20.id, .int .i64 1, .int .i64 99]) rfl rfl rfl (by kernel_rfl) rfl rfl (inside_any x20.id 1 99 _) ?_
        rintro e w' ⟨rfl, rfl⟩
        refine ⟨_, rfl, s45, ?_⟩
        rcases Bool.eq_false_or_eq_true (inB x20.id 1 99) with q48 | q48
        · rw [q48]
          refine sq (v := .bool false) rfl (r_not rfl rfl rfl) rfl rfl rfl ?_
          refine sq (v := .bool false) rfl (r_move rfl rfl) rfl rfl rfl ?_
          simp only [List.set_cons_zero, List.set_cons_succ]
          refine sq (v := .agg #[.int .i64 m, .slice A n c]) rfl (r_load2 rfl rfl (by kernel_rfl) (by kernel_rfl) (sgS (blk_cell (j := 0) x6 rfl) (by simp)) (sgS (blk_cell (j := 1) x6 rfl) (by simp))) rfl rfl rfl ?_
          refine sq (v := .pointer (some ⟨b30, 1, none⟩)) rfl (r_field (k := 1) rfl rfl (by kernel_rfl)) rfl rfl rfl ?_
          refine sq (v := .int .i64 x20.fr) rfl (r_load rfl rfl (by kernel_rfl) (sgS (blk_cell (j := 1) x40 rfl) (by simp))) rfl rfl rfl ?_
          refine sc (vs := [.agg #[.int .i64 m, .slice A n c], .int .i64 x20.fr]) rfl rfl rfl (by kernel_rfl) rfl rfl (has_any m A n c ps x20.fr _) ?_
          rintro e w50 ⟨rfl, b49⟩
          have s51 := SG.of_below s45 b49
          refine ⟨_, rfl, s51, ?_⟩
          rcases Bool.eq_false_or_eq_true (inB x20.fr 1 m) with q52 | q52
          · rw [q52]
            refine sq (v := .bool false) rfl (r_not rfl rfl rfl) rfl rfl rfl ?_
            simp only [List.set_cons_zero, List.set_cons_succ]
            refine sq (v := .bool false) rfl (r_pick rfl rfl rfl) rfl rfl rfl ?_
            refine sq (v := .bool false) rfl (r_move rfl rfl) rfl rfl rfl ?_
            refine sq (v := .agg #[.int .i64 m, .slice A n c]) rfl (r_load2 rfl rfl (by kernel_rfl) (by kernel_rfl) (sgS (blk_cell (j := 0) x6 rfl) (by simp)) (sgS (blk_cell (j := 1) x6 rfl) (by simp))) rfl rfl rfl ?_
            refine sq (v := .pointer (some ⟨b30, 2, none⟩)) rfl (r_field (k := 2) rfl rfl (by kernel_rfl)) rfl rfl rfl ?_
            refine sq (v := .int .i64 x20.to) rfl (r_load rfl rfl (by kernel_rfl) (sgS (blk_cell (j := 2) x40 rfl) (by simp))) rfl rfl rfl ?_
            simp only [List.set_cons_zero, List.set_cons_succ]
            refine sc (vs := [.agg #[.int .i64 m, .slice A n c], .int .i64 x20.to]) rfl rfl rfl (by kernel_rfl) rfl rfl (has_any m A n c ps x20.to _) ?_
            rintro e w54 ⟨rfl, b53⟩
            have s55 := SG.of_below s51 b53
            refine ⟨_, rfl, s55, ?_⟩
            rcases Bool.eq_false_or_eq_true (inB x20.to 1 m) with q56 | q56
            · rw [q56]
              refine sq (v := .bool false) rfl (r_not rfl rfl rfl) rfl rfl rfl ?_
              refine sq (v := .bool false) rfl (r_pick rfl rfl rfl) rfl rfl rfl ?_
              refine sq (v := .bool false) rfl (r_move rfl rfl) rfl rfl rfl ?_
              refine sq (v := .pointer (some ⟨b30, 1, none⟩)) rfl (r_field (k := 1) rfl rfl (by kernel_rfl)) rfl rfl rfl ?_
              simp only [List.set_cons_zero, List.set_cons_succ]
              refine sq (v := .int .i64 x20.fr) rfl (r_load rfl rfl (by kernel_rfl) (sgS (blk_cell (j := 1) x40 rfl) (by simp))) rfl rfl rfl ?_
              refine sq (v := .pointer (some ⟨b30, 2, none⟩)) rfl (r_field (k := 2) rfl rfl (by kernel_rfl)) rfl rfl rfl ?_
              refine sq (v := .int .i64 x20.to) rfl (r_load rfl rfl (by kernel_rfl) (sgS (blk_cell (j := 2) x40 rfl) (by simp))) rfl rfl rfl ?_
              by_cases q57 : (x20.fr : Int) = (x20.to : Int)
              · refine sq (v := .bool true) rfl (r_eql rfl rfl rfl (decide_eq_true q57)) rfl rfl rfl ?_
                refine sq (v := .bool true) rfl (r_pick rfl rfl rfl) rfl rfl rfl ?_
                simp only [List.set_cons_zero, List.set_cons_succ]
                refine sq (v := .bool true) rfl (r_move rfl rfl) rfl rfl rfl ?_
                refine sk s55 rfl rfl rfl rfl ?_
                refine sk s55 rfl rfl rfl rfl ?_
                refine sk s55 rfl rfl rfl rfl ?_
                refine sk s55 rfl rfl rfl rfl ?_
                simp only [List.set_cons_zero, List.set_cons_succ]
                refine sq (v := .bool true) rfl (r_pick rfl rfl rfl) rfl rfl rfl ?_
                refine sq (v := .bool true) rfl (r_move rfl rfl) rfl rfl rfl ?_
                refine sk s55 rfl rfl rfl rfl ?_
                refine sk s55 rfl rfl rfl rfl ?_
                refine sk s55 rfl rfl rfl rfl ?_
                simp only [List.set_cons_zero, List.set_cons_succ]
                refine sk s55 rfl rfl rfl rfl ?_
                refine sk s55 rfl rfl rfl rfl ?_
                refine sk s55 rfl rfl rfl rfl ?_
                refine sk s55 rfl rfl rfl rfl ?_
                refine sk s55 rfl rfl rfl rfl ?_
                simp only [List.set_cons_zero, List.set_cons_succ]
                refine sk s55 rfl rfl rfl rfl ?_
                refine sk s55 rfl rfl rfl rfl ?_
                refine sk s55 rfl rfl rfl rfl ?_
                refine sk s55 rfl rfl rfl rfl ?_
                refine sk s55 rfl rfl rfl rfl ?_
                simp only [List.set_cons_zero, List.set_cons_succ]
                refine sk s55 rfl rfl rfl rfl ?_
                refine sq (v := .bool true) rfl (r_pick rfl rfl rfl) rfl rfl rfl ?_
                refine sch_end ?_
                simp only [List.set_cons_zero, List.set_cons_succ]
                have x6 := SG.blk s55 x6 (by simp)
                have x40 := SG.blk s55 x40 (by simp)
                have c58 := (SG.belowR c42 s55 (fun kq e => by cases e))
                refine h12 _ _ ?_
                refine wp_cond_true rfl ?_
                refine wp_seq_k (fun K13 h13 => ?_)
                refine region_quiet [(0, false)] rfl ?_
                refine sq (v := .bool false) rfl (r_assign rfl rfl) rfl rfl rfl ?_
                refine sch_end ?_
                simp only [List.set_cons_zero, List.set_cons_succ]
                refine h13 _ _ ?_
                refine wp_ret ?_
                try simp only [Exit.then, Exit.inBlock]
                refine ret1 rfl rfl ?_
                exact ⟨ret_bool (goodN_bad (k := K) (by omega) (okAt_pipe hx21 (by simp [pipeOk, q57]))).symm, c58⟩
              · refine sq (v := .bool false) rfl (r_eql rfl rfl rfl (decide_eq_false q57)) rfl rfl rfl ?_
                refine sq (v := .bool false) rfl (r_pick rfl rfl rfl) rfl rfl rfl ?_
                simp only [List.set_cons_zero, List.set_cons_succ]
                refine sq (v := .bool false) rfl (r_move rfl rfl) rfl rfl rfl ?_
                refine sq (v := .pointer (some ⟨b30, 3, none⟩)) rfl (r_field (k := 3) rfl rfl (by kernel_rfl)) rfl rfl rfl ?_
                refine sq (v := .int .i64 x20.sz) rfl (r_load rfl rfl (by kernel_rfl) (sgS (blk_cell (j := 3) x40 rfl) (by simp))) rfl rfl rfl ?_
                refine sc (vs := [.int .i64 x20.sz, .int .i64 1, .int .i64 9]) rfl rfl rfl (by kernel_rfl) rfl rfl (inside_any x20.sz 1 9 _) ?_
                rintro e w' ⟨rfl, rfl⟩
                refine ⟨_, rfl, s55, ?_⟩
                rcases Bool.eq_false_or_eq_true (inB x20.sz 1 9) with q61 | q61
                · rw [q61]
                  refine sq (v := .bool false) rfl (r_not rfl rfl rfl) rfl rfl rfl ?_
                  simp only [List.set_cons_zero, List.set_cons_succ]
                  refine sq (v := .bool false) rfl (r_pick rfl rfl rfl) rfl rfl rfl ?_
                  refine sq (v := .bool false) rfl (r_move rfl rfl) rfl rfl rfl ?_
                  refine sq (v := .int .i64 ((K : Nat) : Int)) rfl (r_move rfl rfl) rfl rfl rfl ?_
                  by_cases q62 : (((K : Nat) : Int) : Int) > (0 : Int)
                  · obtain ⟨k, rfl⟩ : ∃ k, K = k + 1 := ⟨K - 1, by omega⟩
                    refine sq (v := .bool true) rfl (r_gtr rfl rfl rfl (decide_eq_true q62)) rfl rfl rfl ?_
                    refine sq (v := .bool true) rfl (r_move rfl rfl) rfl rfl rfl ?_
                    simp only [List.set_cons_zero, List.set_cons_succ]
                    refine sq (v := .pointer (some ⟨b2, 1, none⟩)) rfl (r_field (k := 1) rfl rfl (by kernel_rfl)) rfl rfl rfl ?_
                    refine sq (v := .slice A n c) rfl (r_load rfl rfl (by kernel_rfl) (sgS (blk_cell (j := 1) x6 rfl) (by simp))) rfl rfl rfl ?_
                    refine sq (v := .int .i64 (((k + 1) : Nat) : Int)) rfl (r_move rfl rfl) rfl rfl rfl ?_
                    refine sq (v := .int .i64 ((k : Nat) : Int)) rfl (r_sub (z := ((k : Nat) : Int)) rfl rfl rfl (by omega) (by omega)) rfl rfl rfl ?_
                    obtain ⟨x63, hx64⟩ := get_of (zs := ps) (k := k) (by have := hl; omega)
                    obtain ⟨b65, o66, hA67, hb68, hc69, hc70, hc71, hc72⟩ := Rd.elPipe ha hx64
                    refine sq (v := .pointer (some ⟨b65, o66 + k * 4, none⟩)) rfl (r_idx (k := k) rfl rfl hA67 rfl (by kernel_rfl) (by have := hl; omega)) rfl rfl rfl ?_
                    simp only [List.set_cons_zero, List.set_cons_succ]
                    refine sq (v := .pointer (some ⟨b65, o66 + k * 4, none⟩)) rfl (r_field0 rfl rfl (by kernel_rfl)) rfl rfl rfl ?_
                    refine sq (v := .int .i64 x63.id) rfl (r_load rfl rfl (by kernel_rfl) (sgS (later c42 hc69) (by simp))) rfl rfl rfl ?_
                    refine sq (v := .pointer (some ⟨b30, 0, none⟩)) rfl (r_field0 rfl rfl (by kernel_rfl)) rfl rfl rfl ?_
                    refine sq (v := .int .i64 x20.id) rfl (r_load rfl rfl (by kernel_rfl) (sgS (blk_cell (j := 0) x40 rfl) (by simp))) rfl rfl rfl ?_
                    by_cases q73 : (x63.id : Int) ≥ (x20.id : Int)
                    · refine sq (v := .bool true) rfl (r_geq rfl rfl rfl (decide_eq_true q73)) rfl rfl rfl ?_
                      simp only [List.set_cons_zero, List.set_cons_succ]
                      refine sq (v := .bool true) rfl (r_pick rfl rfl rfl) rfl rfl rfl ?_
                      refine sq (v := .bool true) rfl (r_pick rfl rfl rfl) rfl rfl rfl ?_
                      refine sch_end ?_
                      simp only [List.set_cons_zero, List.set_cons_succ]
                      have x6 := SG.blk s55 x6 (by simp)
                      have x40 := SG.blk s55 x40 (by simp)
                      have c74 := (SG.belowR c42 s55 (fun kq e => by cases e))
                      refine h12 _ _ ?_
                      refine wp_cond_true rfl ?_
                      refine wp_seq_k (fun K14 h14 => ?_)
                      refine region_quiet [(0, false)] rfl ?_
                      refine sq (v := .bool false) rfl (r_assign rfl rfl) rfl rfl rfl ?_
                      refine sch_end ?_
                      simp only [List.set_cons_zero, List.set_cons_succ]
                      refine h14 _ _ ?_
                      refine wp_ret ?_
                      try simp only [Exit.then, Exit.inBlock]
                      refine ret1 rfl rfl ?_
                      exact ⟨ret_bool (goodN_bad (k := k + 1) (by omega) (by rw [okAt_next hx21 hx64]; have := q73; simp [pipeOk, q48, q52, q56, q57, q61]; omega)).symm, c74⟩
                    · refine sq (v := .bool false) rfl (r_geq rfl rfl rfl (decide_eq_false q73)) rfl rfl rfl ?_
                      simp only [List.set_cons_zero, List.set_cons_succ]
                      refine sq (v := .bool false) rfl (r_pick rfl rfl rfl) rfl rfl rfl ?_
                      refine sq (v := .bool false) rfl (r_pick rfl rfl rfl) rfl rfl rfl ?_
                      refine sch_end ?_
                      simp only [List.set_cons_zero, List.set_cons_succ]
                      have x6 := SG.blk s55 x6 (by simp)
                      have x40 := SG.blk s55 x40 (by simp)
                      have c75 := (SG.belowR c42 s55 (fun kq e => by cases e))
                      refine h12 _ _ ?_
                      refine wp_cond_false rfl ?_
                      refine wp_skip ?_
                      refine h10 _ _ ?_
                      refine region_quiet [(0, false), (1, false)] rfl ?_
                      refine sq (v := .int .i64 (((k + 1) + 1 : Nat) : Int)) rfl (r_add (z := (((k + 1) + 1 : Nat) : Int)) rfl rfl rfl (by omega) (by omega)) rfl rfl rfl ?_
                      refine sq (v := .int .i64 (((k + 1) + 1 : Nat) : Int)) rfl (r_move rfl rfl) rfl rfl rfl ?_
                      refine sch_end ?_
                      simp only [List.set_cons_zero, List.set_cons_succ]
                      exact h7 _ _ _ (by omega : (n - (k + 1 + 1)) < _) ⟨k + 1 + 1, _, _, _, _, _, _, _, _, _, _, _, _, _, _, _, _, _, _, _, _, _, _, _, _, _, _, _, _, _, _, _, _, _, _, _, _, _, _, _, _, _, _, _, _, _, _, _, _, _, _, _, _, _, _, rfl, rfl, (by omega), (okTo_next hok (by rw [okAt_next hx21 hx64]; have := q73; simp [pipeOk, q48, q52, q56, q57, q61]; omega)), x6, c75⟩
                  · refine sq (v := .bool false) rfl (r_gtr rfl rfl rfl (decide_eq_false q62)) rfl rfl rfl ?_
                    refine sq (v := .bool false) rfl (r_move rfl rfl) rfl rfl rfl ?_
                    simp only [List.set_cons_zero, List.set_cons_succ]
                    refine sk s55 rfl rfl rfl rfl ?_
                    refine sk s55 rfl rfl rfl rfl ?_
                    refine sk s55 rfl rfl rfl rfl ?_
                    refine sk s55 rfl rfl rfl rfl ?_
                    refine sk s55 rfl rfl rfl rfl ?_
                    simp only [List.set_cons_zero, List.set_cons_succ]
                    refine sk s55 rfl rfl rfl rfl ?_
                    refine sk s55 rfl rfl rfl rfl ?_
                    refine sk s55 rfl rfl rfl rfl ?_
                    refine sk s55 rfl rfl rfl rfl ?_
                    refine sk s55 rfl rfl rfl rfl ?_
                    simp only [List.set_cons_zero, List.set_cons_succ]
                    refine sq (v := .bool false) rfl (r_pick rfl rfl rfl) rfl rfl rfl ?_
                    refine sq (v := .bool false) rfl (r_pick rfl rfl rfl) rfl rfl rfl ?_
                    refine sch_end ?_
                    simp only [List.set_cons_zero, List.set_cons_succ]
                    have x6 := SG.blk s55 x6 (by simp)
                    have x40 := SG.blk s55 x40 (by simp)
                    have c76 := (SG.belowR c42 s55 (fun kq e => by cases e))
                    refine h12 _ _ ?_
                    refine wp_cond_false rfl ?_
                    refine wp_skip ?_
                    refine h10 _ _ ?_
                    refine region_quiet [(0, false), (1, false)] rfl ?_
                    refine sq (v := .int .i64 ((K + 1 : Nat) : Int)) rfl (r_add (z := ((K + 1 : Nat) : Int)) rfl rfl rfl (by omega) (by omega)) rfl rfl rfl ?_
                    refine sq (v := .int .i64 ((K + 1 : Nat) : Int)) rfl (r_move rfl rfl) rfl rfl rfl ?_
                    refine sch_end ?_
                    simp only [List.set_cons_zero, List.set_cons_succ]
                    exact h7 _ _ _ (by omega : (n - (K + 1)) < _) ⟨K + 1, _, _, _, _, _, _, _, _, _, _, _, _, _, _, _, _, _, _, _, _, _, _, _, _, _, _, _, _, _, _, _, _, _, _, _, _, _, _, _, _, _, _, _, _, _, _, _, _, _, _, _, _, _, _, rfl, rfl, (by omega), (okTo_next hok (by have e0 : K = 0 := (by omega); subst e0; rw [okAt_zero hx21]; simp [pipeOk, q48, q52, q56, q57, q61])), x6, c76⟩
                · rw [q61]
                  refine sq (v := .bool true) rfl (r_not rfl rfl rfl) rfl rfl rfl ?_
                  simp only [List.set_cons_zero, List.set_cons_succ]
                  refine sq (v := .bool true) rfl (r_pick rfl rfl rfl) rfl rfl rfl ?_
                  refine sq (v := .bool true) rfl (r_move rfl rfl) rfl rfl rfl ?_
                  refine sk s55 rfl rfl rfl rfl ?_
                  refine sk s55 rfl rfl rfl rfl ?_
                  refine sk s55 rfl rfl rfl rfl ?_
                  simp only [List.set_cons_zero, List.set_cons_succ]
                  refine sk s55 rfl rfl rfl rfl ?_
                  refine sk s55 rfl rfl rfl rfl ?_
                  refine sk s55 rfl rfl rfl rfl ?_
                  refine sk s55 rfl rfl rfl rfl ?_
                  refine sk s55 rfl rfl rfl rfl ?_
                  simp only [List.set_cons_zero, List.set_cons_succ]
                  refine sk s55 rfl rfl rfl rfl ?_
                  refine sk s55 rfl rfl rfl rfl ?_
                  refine sk s55 rfl rfl rfl rfl ?_
                  refine sk s55 rfl rfl rfl rfl ?_
                  refine sk s55 rfl rfl rfl rfl ?_
                  simp only [List.set_cons_zero, List.set_cons_succ]
                  refine sk s55 rfl rfl rfl rfl ?_
                  refine sq (v := .bool true) rfl (r_pick rfl rfl rfl) rfl rfl rfl ?_
                  refine sch_end ?_
                  simp only [List.set_cons_zero, List.set_cons_succ]
                  have x6 := SG.blk s55 x6 (by simp)
                  have x40 := SG.blk s55 x40 (by simp)
                  have c77 := (SG.belowR c42 s55 (fun kq e => by cases e))
                  refine h12 _ _ ?_
                  refine wp_cond_true rfl ?_
                  refine wp_seq_k (fun K15 h15 => ?_)
                  refine region_quiet [(0, false)] rfl ?_
                  refine sq (v := .bool false) rfl (r_assign rfl rfl) rfl rfl rfl ?_
                  refine sch_end ?_
                  simp only [List.set_cons_zero, List.set_cons_succ]
                  refine h15 _ _ ?_
                  refine wp_ret ?_
                  try simp only [Exit.then, Exit.inBlock]
                  refine ret1 rfl rfl ?_
                  exact ⟨ret_bool (goodN_bad (k := K) (by omega) (okAt_pipe hx21 (by simp [pipeOk, q61]))).symm, c77⟩
            · rw [q56]
              refine sq (v := .bool true) rfl (r_not rfl rfl rfl) rfl rfl rfl ?_
              refine sq (v := .bool true) rfl (r_pick rfl rfl rfl) rfl rfl rfl ?_
              refine sq (v := .bool true) rfl (r_move rfl rfl) rfl rfl rfl ?_
              refine sk s55 rfl rfl rfl rfl ?_
              simp only [List.set_cons_zero, List.set_cons_succ]
              refine sk s55 rfl rfl rfl rfl ?_
              refine sk s55 rfl rfl rfl rfl ?_
              refine sk s55 rfl rfl rfl rfl ?_
              refine sk s55 rfl rfl rfl rfl ?_
              refine sq (v := .bool true) rfl (r_pick rfl rfl rfl) rfl rfl rfl ?_
              simp only [List.set_cons_zero, List.set_cons_succ]
              refine sq (v := .bool true) rfl (r_move rfl rfl) rfl rfl rfl ?_
              refine sk s55 rfl rfl rfl rfl ?_
              refine sk s55 rfl rfl rfl rfl ?_
              refine sk s55 rfl rfl rfl rfl ?_
              refine sk s55 rfl rfl rfl rfl ?_
              simp only [List.set_cons_zero, List.set_cons_succ]
              refine sq (v := .bool true) rfl (r_pick rfl rfl rfl) rfl rfl rfl ?_
              refine sq (v := .bool true) rfl (r_move rfl rfl) rfl rfl rfl ?_
              refine sk s55 rfl rfl rfl rfl ?_
              refine sk s55 rfl rfl rfl rfl ?_
              refine sk s55 rfl rfl rfl rfl ?_
              simp only [List.set_cons_zero, List.set_cons_succ]
              refine sk s55 rfl rfl rfl rfl ?_
              refine sk s55 rfl rfl rfl rfl ?_
              refine sk s55 rfl rfl rfl rfl ?_
              refine sk s55 rfl rfl rfl rfl ?_
              refine sk s55 rfl rfl rfl rfl ?_
              simp only [List.set_cons_zero, List.set_cons_succ]
              refine sk s55 rfl rfl rfl rfl ?_
              refine sk s55 rfl rfl rfl rfl ?_
              refine sk s55 rfl rfl rfl rfl ?_
              refine sk s55 rfl rfl rfl rfl ?_
              refine sk s55 rfl rfl rfl rfl ?_
              simp only [List.set_cons_zero, List.set_cons_succ]
              refine sk s55 rfl rfl rfl rfl ?_
              refine sq (v := .bool true) rfl (r_pick rfl rfl rfl) rfl rfl rfl ?_
              refine sch_end ?_
              simp only [List.set_cons_zero, List.set_cons_succ]
              have x6 := SG.blk s55 x6 (by simp)
              have x40 := SG.blk s55 x40 (by simp)
              have c78 := (SG.belowR c42 s55 (fun kq e => by cases e))
              refine h12 _ _ ?_
              refine wp_cond_true rfl ?_
              refine wp_seq_k (fun K16 h16 => ?_)
              refine region_quiet [(0, false)] rfl ?_
              refine sq (v := .bool false) rfl (r_assign rfl rfl) rfl rfl rfl ?_
              refine sch_end ?_
              simp only [List.set_cons_zero, List.set_cons_succ]
              refine h16 _ _ ?_
              refine wp_ret ?_
              try simp only [Exit.then, Exit.inBlock]
              refine ret1 rfl rfl ?_
              exact ⟨ret_bool (goodN_bad (k := K) (by omega) (okAt_pipe hx21 (by simp [pipeOk, q56]))).symm, c78⟩
          · rw [q52]
            refine sq (v := .bool true) rfl (r_not rfl rfl rfl) rfl rfl rfl ?_
            simp only [List.set_cons_zero, List.set_cons_succ]
            refine sq (v := .bool true) rfl (r_pick rfl rfl rfl) rfl rfl rfl ?_
            refine sq (v := .bool true) rfl (r_move rfl rfl) rfl rfl rfl ?_
            refine sk s51 rfl rfl rfl rfl ?_
            refine sk s51 rfl rfl rfl rfl ?_
            refine sk s51 rfl rfl rfl rfl ?_
            simp only [List.set_cons_zero, List.set_cons_succ]
            refine sk s51 rfl rfl rfl rfl ?_
            refine sk s51 rfl rfl rfl rfl ?_
            refine sq (v := .bool true) rfl (r_pick rfl rfl rfl) rfl rfl rfl ?_
            refine sq (v := .bool true) rfl (r_move rfl rfl) rfl rfl rfl ?_
            refine sk s51 rfl rfl rfl rfl ?_
            simp only [List.set_cons_zero, List.set_cons_succ]
            refine sk s51 rfl rfl rfl rfl ?_
            refine sk s51 rfl rfl rfl rfl ?_
            refine sk s51 rfl rfl rfl rfl ?_
            refine sk s51 rfl rfl rfl rfl ?_
            refine sq (v := .bool true) rfl (r_pick rfl rfl rfl) rfl rfl rfl ?_
            simp only [List.set_cons_zero, List.set_cons_succ]
            refine sq (v := .bool true) rfl (r_move rfl rfl) rfl rfl rfl ?_
            refine sk s51 rfl rfl rfl rfl ?_
            refine sk s51 rfl rfl rfl rfl ?_
            refine sk s51 rfl rfl rfl rfl ?_
            refine sk s51 rfl rfl rfl rfl ?_
            simp only [List.set_cons_zero, List.set_cons_succ]
            refine sq (v := .bool true) rfl (r_pick rfl rfl rfl) rfl rfl rfl ?_
            refine sq (v := .bool true) rfl (r_move rfl rfl) rfl rfl rfl ?_
            refine sk s51 rfl rfl rfl rfl ?_
            refine sk s51 rfl rfl rfl rfl ?_
            refine sk s51 rfl rfl rfl rfl ?_
            simp only [List.set_cons_zero, List.set_cons_succ]
            refine sk s51 rfl rfl rfl rfl ?_
            refine sk s51 rfl rfl rfl rfl ?_
            refine sk s51 rfl rfl rfl rfl ?_
            refine sk s51 rfl rfl rfl rfl ?_
            refine sk s51 rfl rfl rfl rfl ?_
            simp only [List.set_cons_zero, List.set_cons_succ]
            refine sk s51 rfl rfl rfl rfl ?_
            refine sk s51 rfl rfl rfl rfl ?_
            refine sk s51 rfl rfl rfl rfl ?_
            refine sk s51 rfl rfl rfl rfl ?_
            refine sk s51 rfl rfl rfl rfl ?_
            simp only [List.set_cons_zero, List.set_cons_succ]
            refine sk s51 rfl rfl rfl rfl ?_
            refine sq (v := .bool true) rfl (r_pick rfl rfl rfl) rfl rfl rfl ?_
            refine sch_end ?_
            simp only [List.set_cons_zero, List.set_cons_succ]
            have x6 := SG.blk s51 x6 (by simp)
            have x40 := SG.blk s51 x40 (by simp)
            have c79 := (SG.belowR c42 s51 (fun kq e => by cases e))
            refine h12 _ _ ?_
            refine wp_cond_true rfl ?_
            refine wp_seq_k (fun K17 h17 => ?_)
            refine region_quiet [(0, false)] rfl ?_
            refine sq (v := .bool false) rfl (r_assign rfl rfl) rfl rfl rfl ?_
            refine sch_end ?_
            simp only [List.set_cons_zero, List.set_cons_succ]
            refine h17 _ _ ?_
            refine wp_ret ?_
            try simp only [Exit.then, Exit.inBlock]
            refine ret1 rfl rfl ?_
            exact ⟨ret_bool (goodN_bad (k := K) (by omega) (okAt_pipe hx21 (by simp [pipeOk, q52]))).symm, c79⟩
        · rw [q48]
          refine sq (v := .bool true) rfl (r_not rfl rfl rfl) rfl rfl rfl ?_
          refine sq (v := .bool true) rfl (r_move rfl rfl) rfl rfl rfl ?_
          simp only [List.set_cons_zero, List.set_cons_succ]
          refine sk s45 rfl rfl rfl rfl ?_
          refine sk s45 rfl rfl rfl rfl ?_
          refine sk s45 rfl rfl rfl rfl ?_
          refine sk s45 rfl rfl rfl rfl ?_
          refine sk s45 rfl rfl rfl rfl ?_
          simp only [List.set_cons_zero, List.set_cons_succ]
          refine sq (v := .bool true) rfl (r_pick rfl rfl rfl) rfl rfl rfl ?_
          refine sq (v := .bool true) rfl (r_move rfl rfl) rfl rfl rfl ?_
          refine sk s45 rfl rfl rfl rfl ?_
          refine sk s45 rfl rfl rfl rfl ?_
          refine sk s45 rfl rfl rfl rfl ?_
          simp only [List.set_cons_zero, List.set_cons_succ]
          refine sk s45 rfl rfl rfl rfl ?_
          refine sk s45 rfl rfl rfl rfl ?_
          refine sq (v := .bool true) rfl (r_pick rfl rfl rfl) rfl rfl rfl ?_
          refine sq (v := .bool true) rfl (r_move rfl rfl) rfl rfl rfl ?_
          refine sk s45 rfl rfl rfl rfl ?_
          simp only [List.set_cons_zero, List.set_cons_succ]
          refine sk s45 rfl rfl rfl rfl ?_
          refine sk s45 rfl rfl rfl rfl ?_
          refine sk s45 rfl rfl rfl rfl ?_
          refine sk s45 rfl rfl rfl rfl ?_
          refine sq (v := .bool true) rfl (r_pick rfl rfl rfl) rfl rfl rfl ?_
          simp only [List.set_cons_zero, List.set_cons_succ]
          refine sq (v := .bool true) rfl (r_move rfl rfl) rfl rfl rfl ?_
          refine sk s45 rfl rfl rfl rfl ?_
          refine sk s45 rfl rfl rfl rfl ?_
          refine sk s45 rfl rfl rfl rfl ?_
          refine sk s45 rfl rfl rfl rfl ?_
          simp only [List.set_cons_zero, List.set_cons_succ]
          refine sq (v := .bool true) rfl (r_pick rfl rfl rfl) rfl rfl rfl ?_
          refine sq (v := .bool true) rfl (r_move rfl rfl) rfl rfl rfl ?_
          refine sk s45 rfl rfl rfl rfl ?_
          refine sk s45 rfl rfl rfl rfl ?_
          refine sk s45 rfl rfl rfl rfl ?_
          simp only [List.set_cons_zero, List.set_cons_succ]
          refine sk s45 rfl rfl rfl rfl ?_
          refine sk s45 rfl rfl rfl rfl ?_
          refine sk s45 rfl rfl rfl rfl ?_
          refine sk s45 rfl rfl rfl rfl ?_
          refine sk s45 rfl rfl rfl rfl ?_
          simp only [List.set_cons_zero, List.set_cons_succ]
          refine sk s45 rfl rfl rfl rfl ?_
          refine sk s45 rfl rfl rfl rfl ?_
          refine sk s45 rfl rfl rfl rfl ?_
          refine sk s45 rfl rfl rfl rfl ?_
          refine sk s45 rfl rfl rfl rfl ?_
          simp only [List.set_cons_zero, List.set_cons_succ]
          refine sk s45 rfl rfl rfl rfl ?_
          refine sq (v := .bool true) rfl (r_pick rfl rfl rfl) rfl rfl rfl ?_
          refine sch_end ?_
          simp only [List.set_cons_zero, List.set_cons_succ]
          have x6 := SG.blk s45 x6 (by simp)
          have x40 := SG.blk s45 x40 (by simp)
          have c80 := (SG.belowR c42 s45 (fun kq e => by cases e))
          refine h12 _ _ ?_
          refine wp_cond_true rfl ?_
          refine wp_seq_k (fun K18 h18 => ?_)
          refine region_quiet [(0, false)] rfl ?_
          refine sq (v := .bool false) rfl (r_assign rfl rfl) rfl rfl rfl ?_
          refine sch_end ?_
          simp only [List.set_cons_zero, List.set_cons_succ]
          refine h18 _ _ ?_
          refine wp_ret ?_
          try simp only [Exit.then, Exit.inBlock]
          refine ret1 rfl rfl ?_
          exact ⟨ret_bool (goodN_bad (k := K) (by omega) (okAt_pipe hx21 (by simp [pipeOk, q48]))).symm, c80⟩
      · refine sq (v := .bool false) rfl (r_lss rfl rfl rfl (decide_eq_false q18)) rfl rfl rfl ?_
        refine sch_end ?_
        simp only [List.set_cons_zero, List.set_cons_succ]
        refine h8 _ _ ?_
        refine wp_seq_k (fun K19 h19 => ?_)
        refine wp_cond_false rfl ?_
        refine wp_exit ?_
        refine h5 _ _ ?_
        refine wp_seq_k (fun K20 h20 => ?_)
        refine region_quiet [(0, false)] rfl ?_
        refine sq (v := .bool true) rfl (r_assign rfl rfl) rfl rfl rfl ?_
        refine sch_end ?_
        simp only [List.set_cons_zero, List.set_cons_succ]
        refine h20 _ _ ?_
        refine wp_ret ?_
        try simp only [Exit.then]
        refine ret1 rfl rfl ?_
        exact ⟨ret_bool (by rw [goodN_fin hl hk hok (by omega)]; simp [q13]; omega), c17⟩
  · rw [q13]
    refine sq (v := .bool true) rfl (r_not rfl rfl rfl) rfl rfl rfl ?_
    refine sq (v := .bool true) rfl (r_move rfl rfl) rfl rfl rfl ?_
    simp only [List.set_cons_zero, List.set_cons_succ]
    refine sk s10 rfl rfl rfl rfl ?_
    refine sk s10 rfl rfl rfl rfl ?_
    refine sk s10 rfl rfl rfl rfl ?_
    refine sk s10 rfl rfl rfl rfl ?_
    refine sq (v := .bool true) rfl (r_pick rfl rfl rfl) rfl rfl rfl ?_
    simp only [List.set_cons_zero, List.set_cons_succ]
    refine sch_end ?_
    have x6 := SG.blk s10 x6 (by simp)
    have c81 := (SG.belowR c9 s10 (fun kq e => by cases e))
    refine h3 _ _ ?_
    refine wp_cond_true rfl ?_
    refine wp_seq_k (fun K21 h21 => ?_)
    refine region_quiet [(0, false)] rfl ?_
    refine sq (v := .bool false) rfl (r_assign rfl rfl) rfl rfl rfl ?_
    refine sch_end ?_
    simp only [List.set_cons_zero, List.set_cons_succ]
    refine h21 _ _ ?_
    refine wp_ret ?_
    try simp only [Exit.then]
    refine ret1 rfl rfl ?_
    exact ⟨ret_bool (goodN_out hl (by simp [q13])).symm, c81⟩

end Go.Proofs.Ytdlcldaogcbnlaa
