/- What the texts behind it build on; conditions: none. -/
import Derived.Test.YtdbgfejeleafgaaPs5
namespace Go.Proofs.Ytdbgfejeleafgaa
open Go.RowKit
set_option linter.unusedVariables false
set_option linter.unusedSimpArgs false
set_option maxRecDepth 100000 in
set_option maxHeartbeats 8000000 in
theorem l4Good_any (m : Int) (A : Option Addr) (n c : Nat) (ps : List Pp) (A2 : Option Addr) (n2 c2 : Nat) (vs : List Vv) (w : World) (ha : Rd w 4 A n (pipesV ps)) (hb : Rd w 4 A2 n2 (valvesV vs)) (hn : n ≤ 1048576) (hn2 : n2 ≤ 1048576) :
    Calls Try.prog 76 #[.agg #[.int .i64 m, .slice A n c], .slice A2 n2 c2] w fun e w' => e = .returned (.bool (goodV m ps vs)) ∧ Below w.heap.size w w' := by
 have hl := rd_pipes_len ha
 have hl2 := rd_valves_len hb
 go_enter Try.func76, Try.ntmps76
 refine F.begin 99 [(0, .agg #[.int .i64 m, .slice A n c]), (1, .slice A2 n2 c2)] (fun U0 => ?_)
 refine wk fun K1 h1 => ?_
 refine W.region_plain (row := none) [(0, true), (1, false)] kk ?_
 have s1 := SG.self w none
 refine W.sn (fun b => .pointer (some ⟨b, 0, none⟩)) #[.int .i64 m, .slice A n c] 26 s1 rfl kk rfl (fun _ => by kernel_rfl) (fun b2 w3 hb4 k5 x6 s7 => ?_)
 refine F.nx ?_
 have lo8 : w.heap.size ≤ b2 := Nat.le_trans ((SG.belowR (Below.refl _ _) s1 (fun kq e => by cases e))).size (Nat.le_of_eq hb4)
 refine Fa (.bool false) ?_
 refine F.es ?_
 have c9 := (SG.belowR (Below.refl _ _) s7 (fun kq e => by cases e))
 refine h1 _ _ ?_
 refine wk fun K2 h2 => ?_
 refine wk fun K3 h3 => ?_
 refine W.region_plain (row := none) [(0, false), (1, true), (2, false), (3, false), (4, false), (5, false), (6, false), (7, false)] kk ?_
 have s10 := SG.self w3 none
 refine Fq (.agg #[.int .i64 m, .slice A n c]) (r_load2 rfl ek kk kk (sgS (blk_cell (j := 0) x6 kk) (Option.some_ne_none _)) (sgS (blk_cell (j := 1) x6 kk) (Option.some_ne_none _))) ?_
 refine Fc [.agg #[.int .i64 m, .slice A n c]] (l2Good_any m A n c ps _ (Rd.kept ha (SG.belowR c9 s10 (fun kq e => by cases e))) (by omega)) ?_
 rintro e w12 ⟨rfl, b11⟩
 have s13 := SG.of_below s10 b11
 refine ⟨_, rfl, s13, ?_⟩
 refine F.nx ?_
 rcases Bool.eq_false_or_eq_true (goodN m ps) with q14 | q14
 ·rw [q14]
  refine Fq (.bool false) (r_not (b := true) rfl ek rfl) ?_
  refine Fv (.bool false) ?_
  refine Fv (.slice A2 n2 c2) ?_
  refine Fq (.int .i64 (n2 : Int)) (r_len (A := A2) (n := n2) (c := c2) rfl ek kk) ?_
  by_cases q15 : ((n2 : Int) : Int) > (10 : Int)
  ·refine Fq (.bool true) (r_gtr (m := (n2 : Int)) (n := 10) rfl ek ek (decide_eq_true q15)) ?_
   refine Fq (.bool true) (r_pick (b := false) rfl ek ek) ?_
   refine F.es ?_
   have x6 := SG.blk s13 x6 (Option.some_ne_none _)
   have c16 := (SG.belowR c9 s13 (fun kq e => by cases e))
   refine h3 _ _ ?_
   refine wp_cond_true ek ?_
   refine wk fun K4 h4 => ?_
   refine W.region_quiet [(0, false)] kk ?_
   refine Fa (.bool false) ?_
   refine F.es ?_
   refine h4 _ _ ?_
   refine wp_ret ?_
   try simp only [Exit.then]
   refine ret1 (v := .bool false) rfl kk ?_
   exact ⟨ret_bool (goodV_out (.inr (by omega))).symm, c16⟩
  refine Fq (.bool false) (r_gtr (m := (n2 : Int)) (n := 10) rfl ek ek (decide_eq_false q15)) ?_
  refine Fq (.bool false) (r_pick (b := false) rfl ek ek) ?_
  refine F.es ?_
  have x6 := SG.blk s13 x6 (Option.some_ne_none _)
  have c17 := (SG.belowR c9 s13 (fun kq e => by cases e))
  refine h3 _ _ ?_
  refine wp_cond_false ek ?_
  refine wp_skip ?_
  refine h2 _ _ ?_
  refine wk fun K5 h5 => ?_
  refine wk fun K6 h6 => ?_
  refine W.region_quiet [(0, false)] kk ?_
  refine Fa (.int .i64 0) ?_
  refine F.es ?_
  refine h6 _ _ ?_
  refine wp_block ?_
  refine loopK (fun am0 aa0 wl0 => ∃ (K : Nat) , Kn aa0 [(0, .agg #[.int .i64 m, .slice A n c]), (1, .slice A2 n2 c2), (2, .pointer (some ⟨b2, 0, none⟩)), (4, .bool false), (5, .int .i64 (K : Int)), (16, .bool false)] 99 ∧ (am0 = n2 - K) ∧ (K ≤ n2) ∧ (okVTo ps vs K = true) ∧ (wl0.heap[b2]? = some (.cells #[.int .i64 m, .slice A n c] 26 (0, 0))) ∧ (Below w.heap.size w wl0)) (n2 - 0) ?_ ?_
  ·exact ⟨0, Kn.of, rfl, (Nat.zero_le _), rfl, x6, c17⟩
  rintro am0 aa0 wl0 K7 h7 ⟨K, ⟨U0, rfl⟩, rfl, hk, hok, x6, c18⟩
  refine wk fun K8 h8 => ?_
  refine wk fun K9 h9 => ?_
  refine W.region_quiet [(0, false), (1, false), (2, false), (3, false)] kk ?_
  refine Fv (.int .i64 (K : Int)) ?_
  refine Fv (.slice A2 n2 c2) ?_
  refine Fq (.int .i64 (n2 : Int)) (r_len (A := A2) (n := n2) (c := c2) rfl ek kk) ?_
  by_cases q19 : ((K : Int) : Int) < ((n2 : Int) : Int)
  ·refine Fq (.bool true) (r_lss (m := (K : Int)) (n := (n2 : Int)) rfl ek ek (decide_eq_true q19)) ?_
   refine F.es ?_
   refine h9 _ _ ?_
   refine wp_cond_true ek ?_
   refine wp_skip ?_
   refine h8 _ _ ?_
   refine wk fun K10 h10 => ?_
   refine wp_block ?_
   refine wk fun K11 h11 => ?_
   refine W.region_plain (row := none) [(0, false), (1, false), (2, false), (3, false), (4, true), (5, true)] kk ?_
   have s20 := SG.self wl0 none
   refine Fv (.slice A2 n2 c2) ?_
   refine Fv (.int .i64 (K : Int)) ?_
   obtain ⟨x21, hx22⟩ := get_of (zs := vs) (k := K) (by have := hl2; omega)
   obtain ⟨b23, o24, hA25, hb26, hc27, hc28, hc29, hc30⟩ := Rd.elValve hb hx22
   refine Fq (.pointer (some ⟨b23, o24 + K * 4, none⟩)) (r_idx (n := n2) (c := c2) (k := K) rfl ek hA25 kk kk (by have := hl2; omega)) ?_
   refine Fq (.agg #[.int .i64 x21.id, .int .i64 x21.pipe, .int .i64 x21.node, .bool x21.shut]) (r_load4 rfl ek kk kk (sgS (later c18 hc27) (by simp)) (sgS (later c18 hc28) (by simp)) (sgS (later c18 hc29) (by simp)) (sgS (later c18 hc30) (by simp))) ?_
   refine W.sn (fun b => .pointer (some ⟨b, 0, none⟩)) #[.int .i64 0, .int .i64 0, .int .i64 0, .bool false] 40 s20 rfl kk rfl (fun _ => by kernel_rfl) (fun b31 w32 hb33 k34 x35 s36 => ?_)
   refine F.nx ?_
   have lo37 : w.heap.size ≤ b31 := Nat.le_trans ((SG.belowR c18 s20 (fun kq e => by cases e))).size (Nat.le_of_eq hb33)
   refine W.ss (v := .agg #[.int .i64 x21.id, .int .i64 x21.pipe, .int .i64 x21.node, .bool x21.shut]) (j := 0) (news := [.int .i64 x21.id, .int .i64 x21.pipe, .int .i64 x21.node, .bool x21.shut]) (cs' := #[.int .i64 x21.id, .int .i64 x21.pipe, .int .i64 x21.node, .bool x21.shut]) s36 rfl kk rfl rfl kk kk x35 kk kk (by simp) kk kk (.inr (Nat.le_trans (s20).size (Nat.le_of_eq hb33))) (fun w39 g40 x41 s42 => ?_)
   refine F.es ?_
   have x6 := SG.blk s42 x6 (Option.some_ne_none _)
   have c43 := (SG.belowR c18 s42 (fun kq e => by cases e))
   refine h11 _ _ ?_
   refine wk fun K12 h12 => ?_
   refine W.region_plain (row := none) [(0, false), (1, false), (2, false), (3, true), (4, false)] kk ?_
   have s44 := SG.self w39 none
   refine Fq (.agg #[.int .i64 m, .slice A n c]) (r_load2 rfl ek kk kk (sgS (blk_cell (j := 0) x6 kk) (Option.some_ne_none _)) (sgS (blk_cell (j := 1) x6 kk) (Option.some_ne_none _))) ?_
   refine Fq (.pointer (some ⟨b31, 1, none⟩)) (r_field (k := 1) rfl ek kk) ?_
   refine Fl (.int .i64 x21.pipe) (sgS (blk_cell (j := 1) x41 kk) (Option.some_ne_none _)) ?_
   refine Fc [.agg #[.int .i64 m, .slice A n c], .int .i64 x21.pipe] (l2Find_any m A n c ps x21.pipe _ (Rd.kept ha (SG.belowR c43 s44 (fun kq e => by cases e))) (by omega)) ?_
   rintro e w46 ⟨rfl, b45⟩
   have s47 := SG.of_below s44 b45
   refine ⟨_, rfl, s47, ?_⟩
   refine F.nx ?_
   refine Fa (.int .i64 (findL ps x21.pipe)) ?_
   refine F.es ?_
   have x6 := SG.blk s47 x6 (Option.some_ne_none _)
   have x41 := SG.blk s47 x41 (Option.some_ne_none _)
   have c48 := (SG.belowR c43 s47 (fun kq e => by cases e))
   refine h12 _ _ ?_
   refine wk fun K13 h13 => ?_
   refine wk fun K14 h14 => ?_
   refine W.region_sch (row := none) (Sch.of [(0, false), (1, false), (2, true), (3, false), (4, false), (5, false), (6, false), (7, false), (8, false), (9, false), (10, false), (11, false), (12, false), (13, false), (14, false), (15, false), (16, false), (17, false), (18, false), (19, false), (20, false), (21, false), (22, false), (23, false), (24, false), (25, false), (26, false), (27, false), (28, false), (29, false), (30, false), (31, false), (32, false), (33, false), (34, false), (35, false), (36, false), (37, false), (38, false), (39, false), (40, false), (41, false), (42, false), (43, false), (44, false)]) kk kk (fun _ d _ _ _ h => by cases d <;> exact h) kk (fun w49 e50 s51 => ?_)
   refine Fq (.pointer (some ⟨b31, 0, none⟩)) (r_field0 rfl ek kk) ?_
   refine Fl (.int .i64 x21.id) (sgS (blk_cell (j := 0) x41 kk) (Option.some_ne_none _)) ?_
   refine Fc [.int .i64 x21.id, .int .i64 1, .int .i64 99] (l1In_any x21.id 1 99 _) ?_
   rintro e w' ⟨rfl, rfl⟩
   refine ⟨_, rfl, s51, ?_⟩
   refine F.nx ?_
   rcases Bool.eq_false_or_eq_true (inB x21.id 1 99) with q54 | q54
   ·rw [q54]
    refine Fq (.bool false) (r_not (b := true) rfl ek rfl) ?_
    refine Fv (.bool false) ?_
    refine Fv (.int .i64 (K : Int)) ?_
    by_cases q55 : ((K : Int) : Int) > (0 : Int)
    ·obtain ⟨k, rfl⟩ : ∃ k, K = k + 1 := ⟨K - 1, by omega⟩
     refine Fq (.bool true) (r_gtr (m := (((k + 1) : Nat) : Int)) (n := 0) rfl ek ek (decide_eq_true q55)) ?_
     refine Fv (.bool true) ?_
     refine Fv (.slice A2 n2 c2) ?_
     refine Fv (.int .i64 (((k + 1) : Nat) : Int)) ?_
     refine Fq (.int .i64 (k : Int)) (r_sub (m := (((k + 1) : Nat) : Int)) (n := 1) (z := (k : Int)) rfl ek ek (by omega) (by omega)) ?_
     obtain ⟨x56, hx57⟩ := get_of (zs := vs) (k := k) (by have := hl2; omega)
     obtain ⟨b58, o59, hA60, hb61, hc62, hc63, hc64, hc65⟩ := Rd.elValve hb hx57
     refine Fq (.pointer (some ⟨b58, o59 + k * 4, none⟩)) (r_idx (n := n2) (c := c2) (k := k) rfl ek hA60 kk kk (by have := hl2; omega)) ?_
     refine Fq (.pointer (some ⟨b58, o59 + k * 4, none⟩)) (r_field0 rfl ek kk) ?_
     refine Fl (.int .i64 x56.id) (sgS (later c48 hc62) (by simp)) ?_
     refine Fq (.pointer (some ⟨b31, 0, none⟩)) (r_field0 rfl ek kk) ?_
     refine Fl (.int .i64 x21.id) (sgS (blk_cell (j := 0) x41 kk) (Option.some_ne_none _)) ?_
     by_cases q66 : (x56.id : Int) ≥ (x21.id : Int)
     ·refine Fq (.bool true) (r_geq (m := x56.id) (n := x21.id) rfl ek ek (decide_eq_true q66)) ?_
      refine Fq (.bool true) (r_pick (b := true) rfl ek ek) ?_
      refine Fq (.bool true) (r_pick (b := false) rfl ek ek) ?_
      refine Fv (.bool true) ?_
      refine Fs s51 ?_
      refine Fs s51 ?_
      refine Fq (.bool true) (r_pick (b := true) rfl ek ek) ?_
      refine Fv (.bool true) ?_
      refine Fs s51 ?_
      refine Fs s51 ?_
      refine Fs s51 ?_
      refine Fs s51 ?_
      refine Fs s51 ?_
      refine Fs s51 ?_
      refine Fs s51 ?_
      refine Fs s51 ?_
      refine Fs s51 ?_
      refine Fs s51 ?_
      refine Fs s51 ?_
      refine Fs s51 ?_
      refine Fs s51 ?_
      refine Fs s51 ?_
      refine Fs s51 ?_
      refine Fs s51 ?_
      refine Fs s51 ?_
      refine Fs s51 ?_
      refine Fs s51 ?_
      refine Fs s51 ?_
      refine Fq (.bool true) (r_pick (b := true) rfl ek ek) ?_
      refine F.es ?_
      have x6 := SG.blk s51 x6 (Option.some_ne_none _)
      have x41 := SG.blk s51 x41 (Option.some_ne_none _)
      have c67 := (SG.belowR c48 s51 (fun kq e => by cases e))
      refine h14 _ _ ?_
      refine wp_cond_true ek ?_
      refine wk fun K15 h15 => ?_
      refine W.region_quiet [(0, false)] kk ?_
      refine Fa (.bool false) ?_
      refine F.es ?_
      refine h15 _ _ ?_
      refine wp_ret ?_
      try simp only [Exit.then, Exit.inBlock]
      refine ret1 (v := .bool false) rfl kk ?_
      have e8 : okV ps vs (k + 1) = false := Bool.eq_false_iff.2 (fun h9 => by
        have h8 := (okV_iff hx22).1 h9
        obtain ⟨⟨hA, hB⟩, hC, hD⟩ := h8
        obtain ⟨hC0, p9, hp9, hC1⟩ := endAt_pos hC
        have hB' := of_decide_eq_true ((above_next hx57).symm.trans hB)
        first | omega | (rw [inB_iff.2 hA] at q54; cases q54))
      exact ⟨ret_bool (goodV_bad (k := k + 1) (by omega) e8).symm, c67⟩
     refine Fq (.bool false) (r_geq (m := x56.id) (n := x21.id) rfl ek ek (decide_eq_false q66)) ?_
     refine Fq (.bool false) (r_pick (b := true) rfl ek ek) ?_
     refine Fq (.bool false) (r_pick (b := false) rfl ek ek) ?_
     refine Fv (.bool false) ?_
     refine Fv (.int .i64 (findL ps x21.pipe)) ?_
     by_cases q68 : (findL ps x21.pipe : Int) < (0 : Int)
     ·refine Fq (.bool true) (r_lss (m := findL ps x21.pipe) (n := 0) rfl ek ek (decide_eq_true q68)) ?_
      refine Fq (.bool true) (r_pick (b := false) rfl ek ek) ?_
      refine Fv (.bool true) ?_
      refine Fs s51 ?_
      refine Fs s51 ?_
      refine Fs s51 ?_
      refine Fs s51 ?_
      refine Fs s51 ?_
      refine Fs s51 ?_
      refine Fs s51 ?_
      refine Fs s51 ?_
      refine Fs s51 ?_
      refine Fs s51 ?_
      refine Fs s51 ?_
      refine Fs s51 ?_
      refine Fs s51 ?_
      refine Fs s51 ?_
      refine Fs s51 ?_
      refine Fs s51 ?_
      refine Fs s51 ?_
      refine Fs s51 ?_
      refine Fs s51 ?_
      refine Fs s51 ?_
      refine Fq (.bool true) (r_pick (b := true) rfl ek ek) ?_
      refine F.es ?_
      have x6 := SG.blk s51 x6 (Option.some_ne_none _)
      have x41 := SG.blk s51 x41 (Option.some_ne_none _)
      have c69 := (SG.belowR c48 s51 (fun kq e => by cases e))
      refine h14 _ _ ?_
      refine wp_cond_true ek ?_
      refine wk fun K16 h16 => ?_
      refine W.region_quiet [(0, false)] kk ?_
      refine Fa (.bool false) ?_
      refine F.es ?_
      refine h16 _ _ ?_
      refine wp_ret ?_
      try simp only [Exit.then, Exit.inBlock]
      refine ret1 (v := .bool false) rfl kk ?_
      have e8 : okV ps vs (k + 1) = false := Bool.eq_false_iff.2 (fun h9 => by
        have h8 := (okV_iff hx22).1 h9
        obtain ⟨⟨hA, hB⟩, hC, hD⟩ := h8
        obtain ⟨hC0, p9, hp9, hC1⟩ := endAt_pos hC
        have hB' := of_decide_eq_true ((above_next hx57).symm.trans hB)
        first | omega | (rw [inB_iff.2 hA] at q54; cases q54))
      exact ⟨ret_bool (goodV_bad (k := k + 1) (by omega) e8).symm, c69⟩
     refine Fq (.bool false) (r_lss (m := findL ps x21.pipe) (n := 0) rfl ek ek (decide_eq_false q68)) ?_
     refine Fq (.bool false) (r_pick (b := false) rfl ek ek) ?_
     refine Fv (.bool false) ?_
     refine Fq (.pointer (some ⟨b2, 1, none⟩)) (r_field (k := 1) rfl ek kk) ?_
     refine Fl (.slice A n c) (sgS (blk_cell (j := 1) x6 kk) (Option.some_ne_none _)) ?_
     refine Fv (.int .i64 (findL ps x21.pipe)) ?_
     have hfl := findL_lt ps x21.pipe
     obtain ⟨x70, hx71⟩ := get_of (zs := ps) (k := (findL ps x21.pipe).toNat) (by have := hl; omega)
     obtain ⟨b72, o73, hA74, hb75, hc76, hc77, hc78, hc79⟩ := Rd.elPipe ha hx71
     refine Fq (.pointer (some ⟨b72, o73 + ((findL ps x21.pipe).toNat) * 4, none⟩)) (r_idx (n := n) (c := c) (k := (findL ps x21.pipe).toNat) rfl ek hA74 (evk (z := findL ps x21.pipe) kk (by omega)) kk (by have := hl; omega)) ?_
     refine Fq (.pointer (some ⟨b72, o73 + ((findL ps x21.pipe).toNat) * 4 + 1, none⟩)) (r_field (k := 1) rfl ek kk) ?_
     refine Fl (.int .i64 x70.fr) (sgS (later c48 hc77) (by simp)) ?_
     refine Fq (.pointer (some ⟨b31, 2, none⟩)) (r_field (k := 2) rfl ek kk) ?_
     refine Fl (.int .i64 x21.node) (sgS (blk_cell (j := 2) x41 kk) (Option.some_ne_none _)) ?_
     by_cases q80 : (x70.fr : Int) ≠ (x21.node : Int)
     ·refine Fq (.bool true) (r_neq (m := x70.fr) (n := x21.node) rfl ek ek (decide_eq_true q80)) ?_
      refine Fv (.bool true) ?_
      refine Fq (.pointer (some ⟨b2, 1, none⟩)) (r_field (k := 1) rfl ek kk) ?_
      refine Fl (.slice A n c) (sgS (blk_cell (j := 1) x6 kk) (Option.some_ne_none _)) ?_
      refine Fv (.int .i64 (findL ps x21.pipe)) ?_
      refine Fq (.pointer (some ⟨b72, o73 + ((findL ps x21.pipe).toNat) * 4, none⟩)) (r_idx (n := n) (c := c) (k := (findL ps x21.pipe).toNat) rfl ek hA74 (evk (z := findL ps x21.pipe) kk (by omega)) kk (by have := hl; omega)) ?_
      refine Fq (.pointer (some ⟨b72, o73 + ((findL ps x21.pipe).toNat) * 4 + 2, none⟩)) (r_field (k := 2) rfl ek kk) ?_
      refine Fl (.int .i64 x70.to) (sgS (later c48 hc78) (by simp)) ?_
      refine Fq (.pointer (some ⟨b31, 2, none⟩)) (r_field (k := 2) rfl ek kk) ?_
      refine Fl (.int .i64 x21.node) (sgS (blk_cell (j := 2) x41 kk) (Option.some_ne_none _)) ?_
      by_cases q81 : (x70.to : Int) ≠ (x21.node : Int)
      ·refine Fq (.bool true) (r_neq (m := x70.to) (n := x21.node) rfl ek ek (decide_eq_true q81)) ?_
       refine Fq (.bool true) (r_pick (b := true) rfl ek ek) ?_
       refine Fq (.bool true) (r_pick (b := false) rfl ek ek) ?_
       refine F.es ?_
       have x6 := SG.blk s51 x6 (Option.some_ne_none _)
       have x41 := SG.blk s51 x41 (Option.some_ne_none _)
       have c82 := (SG.belowR c48 s51 (fun kq e => by cases e))
       refine h14 _ _ ?_
       refine wp_cond_true ek ?_
       refine wk fun K17 h17 => ?_
       refine W.region_quiet [(0, false)] kk ?_
       refine Fa (.bool false) ?_
       refine F.es ?_
       refine h17 _ _ ?_
       refine wp_ret ?_
       try simp only [Exit.then, Exit.inBlock]
       refine ret1 (v := .bool false) rfl kk ?_
       have e8 : okV ps vs (k + 1) = false := Bool.eq_false_iff.2 (fun h9 => by
         have h8 := (okV_iff hx22).1 h9
         obtain ⟨⟨hA, hB⟩, hC, hD⟩ := h8
         obtain ⟨hC0, p9, hp9, hC1⟩ := endAt_pos hC
         have hB' := of_decide_eq_true ((above_next hx57).symm.trans hB)
         obtain rfl := Option.some.inj (hp9.symm.trans hx71)
         first | omega | (rw [inB_iff.2 hA] at q54; cases q54))
       exact ⟨ret_bool (goodV_bad (k := k + 1) (by omega) e8).symm, c82⟩
      refine Fq (.bool false) (r_neq (m := x70.to) (n := x21.node) rfl ek ek (decide_eq_false q81)) ?_
      refine Fq (.bool false) (r_pick (b := true) rfl ek ek) ?_
      refine Fq (.bool false) (r_pick (b := false) rfl ek ek) ?_
      refine F.es ?_
      have x6 := SG.blk s51 x6 (Option.some_ne_none _)
      have x41 := SG.blk s51 x41 (Option.some_ne_none _)
      have c83 := (SG.belowR c48 s51 (fun kq e => by cases e))
      refine h14 _ _ ?_
      refine wp_cond_false ek ?_
      refine wp_skip ?_
      refine h13 _ _ ?_
      refine wk fun K18 h18 => ?_
      refine W.region_quiet [(0, false)] kk ?_
      refine Fa (.int .i64 0) ?_
      refine F.es ?_
      refine h18 _ _ ?_
      refine wp_block ?_
      refine loopK (fun am1 aa1 wl1 => ∃ (j : Nat) , Kn aa1 [(0, .agg #[.int .i64 m, .slice A n c]), (1, .slice A2 n2 c2), (2, .pointer (some ⟨b2, 0, none⟩)), (4, .bool false), (5, .int .i64 (((k + 1) : Nat) : Int)), (6, .pointer (some ⟨b31, 0, none⟩)), (7, .int .i64 (findL ps x21.pipe)), (8, .int .i64 (j : Int)), (16, .bool false), (20, .bool true), (75, .bool false)] 99 ∧ (am1 = (k + 1) - j) ∧ (j ≤ k + 1) ∧ (∀ i z, i < j → vs[i]? = some z → ¬ (z.pipe = x21.pipe ∧ z.node = x21.node)) ∧ (wl1.heap[b2]? = some (.cells #[.int .i64 m, .slice A n c] 26 (0, 0))) ∧ (wl1.heap[b31]? = some (.cells #[.int .i64 x21.id, .int .i64 x21.pipe, .int .i64 x21.node, .bool x21.shut] 40 (0, 0))) ∧ (Below w.heap.size w wl1)) ((k + 1) - 0) ?_ ?_
      ·exact ⟨0, Kn.of, rfl, (Nat.zero_le _), (fun i z hi => absurd hi (by omega)), x6, x41, c83⟩
      rintro am1 aa1 wl1 K19 h19 ⟨j, ⟨U1, rfl⟩, rfl, hj, hno, x6, x41, c84⟩
      refine wk fun K20 h20 => ?_
      refine wk fun K21 h21 => ?_
      refine W.region_quiet [(0, false), (1, false), (2, false)] kk ?_
      refine Fv (.int .i64 (j : Int)) ?_
      refine Fv (.int .i64 (((k + 1) : Nat) : Int)) ?_
      by_cases q85 : ((j : Int) : Int) < ((((k + 1) : Nat) : Int) : Int)
      ·refine Fq (.bool true) (r_lss (m := (j : Int)) (n := (((k + 1) : Nat) : Int)) rfl ek ek (decide_eq_true q85)) ?_
       refine F.es ?_
       refine h21 _ _ ?_
       refine wp_cond_true ek ?_
       refine wp_skip ?_
       refine h20 _ _ ?_
       refine wk fun K22 h22 => ?_
       refine wp_block ?_
       refine wk fun K23 h23 => ?_
       refine W.region_sch (row := none) (Sch.of [(0, false), (1, false), (2, false), (3, false), (4, false), (5, false), (6, false), (7, false), (8, false), (9, false), (10, false), (11, false), (12, false), (13, false), (14, false), (15, false), (16, false), (17, false)]) kk kk (fun _ d _ _ _ h => by cases d <;> exact h) kk (fun w86 e87 s88 => ?_)
       refine Fv (.slice A2 n2 c2) ?_
       refine Fv (.int .i64 (j : Int)) ?_
       obtain ⟨x89, hx90⟩ := get_of (zs := vs) (k := j) (by have := hl2; omega)
       obtain ⟨b91, o92, hA93, hb94, hc95, hc96, hc97, hc98⟩ := Rd.elValve hb hx90
       refine Fq (.pointer (some ⟨b91, o92 + j * 4, none⟩)) (r_idx (n := n2) (c := c2) (k := j) rfl ek hA93 kk kk (by have := hl2; omega)) ?_
       refine Fq (.pointer (some ⟨b91, o92 + j * 4 + 1, none⟩)) (r_field (k := 1) rfl ek kk) ?_
       refine Fl (.int .i64 x89.pipe) (sgS (later c84 hc96) (by simp)) ?_
       refine Fq (.pointer (some ⟨b31, 1, none⟩)) (r_field (k := 1) rfl ek kk) ?_
       refine Fl (.int .i64 x21.pipe) (sgS (blk_cell (j := 1) x41 kk) (Option.some_ne_none _)) ?_
       by_cases q99 : (x89.pipe : Int) = (x21.pipe : Int)
       ·refine Fq (.bool true) (r_eql (m := x89.pipe) (n := x21.pipe) rfl ek ek (decide_eq_true q99)) ?_
        refine Fv (.bool true) ?_
        refine Fv (.slice A2 n2 c2) ?_
        refine Fv (.int .i64 (j : Int)) ?_
        refine Fq (.pointer (some ⟨b91, o92 + j * 4, none⟩)) (r_idx (n := n2) (c := c2) (k := j) rfl ek hA93 kk kk (by have := hl2; omega)) ?_
        refine Fq (.pointer (some ⟨b91, o92 + j * 4 + 2, none⟩)) (r_field (k := 2) rfl ek kk) ?_
        refine Fl (.int .i64 x89.node) (sgS (later c84 hc97) (by simp)) ?_
        refine Fq (.pointer (some ⟨b31, 2, none⟩)) (r_field (k := 2) rfl ek kk) ?_
        refine Fl (.int .i64 x21.node) (sgS (blk_cell (j := 2) x41 kk) (Option.some_ne_none _)) ?_
        by_cases q100 : (x89.node : Int) = (x21.node : Int)
        ·refine Fq (.bool true) (r_eql (m := x89.node) (n := x21.node) rfl ek ek (decide_eq_true q100)) ?_
         refine Fq (.bool true) (r_pick (b := true) rfl ek ek) ?_
         refine F.es ?_
         have x6 := SG.blk s88 x6 (Option.some_ne_none _)
         have x41 := SG.blk s88 x41 (Option.some_ne_none _)
         have c101 := (SG.belowR c84 s88 (fun kq e => by cases e))
         refine h23 _ _ ?_
         refine wp_cond_true ek ?_
         refine wk fun K24 h24 => ?_
         refine W.region_quiet [(0, false)] kk ?_
         refine Fa (.bool false) ?_
         refine F.es ?_
         refine h24 _ _ ?_
         refine wp_ret ?_
         try simp only [Exit.then, Exit.inBlock]
         refine ret1 (v := .bool false) rfl kk ?_
         have e8 : okV ps vs (k + 1) = false := Bool.eq_false_iff.2 (fun h9 => by
           have h8 := (okV_iff hx22).1 h9
           obtain ⟨⟨hA, hB⟩, hC, hD⟩ := h8
           obtain ⟨hC0, p9, hp9, hC1⟩ := endAt_pos hC
           have hB' := of_decide_eq_true ((above_next hx57).symm.trans hB)
           obtain rfl := Option.some.inj (hp9.symm.trans hx71)
           exact absurd (placed_yes (k := k + 1) (a := x21.pipe) (b := x21.node) hx90 (by omega) q99 q100) (by rw [hD]; simp))
         exact ⟨ret_bool (goodV_bad (k := k + 1) (by omega) e8).symm, c101⟩
        refine Fq (.bool false) (r_eql (m := x89.node) (n := x21.node) rfl ek ek (decide_eq_false q100)) ?_
        refine Fq (.bool false) (r_pick (b := true) rfl ek ek) ?_
        refine F.es ?_
        have x6 := SG.blk s88 x6 (Option.some_ne_none _)
        have x41 := SG.blk s88 x41 (Option.some_ne_none _)
        have c102 := (SG.belowR c84 s88 (fun kq e => by cases e))
        refine h23 _ _ ?_
        refine wp_cond_false ek ?_
        refine wp_skip ?_
        refine h22 _ _ ?_
        refine W.region_quiet [(0, false), (1, false), (2, false)] kk ?_
        refine Fv (.int .i64 (j : Int)) ?_
        refine Fq (.int .i64 ((j + 1 : Nat) : Int)) (r_add (m := (j : Int)) (n := 1) (z := ((j + 1 : Nat) : Int)) rfl ek ek (by omega) (by omega)) ?_
        refine Fa (.int .i64 ((j + 1 : Nat) : Int)) ?_
        refine F.es ?_
        exact h19 _ _ _ (by omega : ((k + 1) - (j + 1)) < _) ⟨j + 1, Kn.of, rfl, (by omega), (upto_succ (Q := fun z => ¬ (z.pipe = x21.pipe ∧ z.node = x21.node)) hno hx90 (by omega)), x6, x41, c102⟩
       refine Fq (.bool false) (r_eql (m := x89.pipe) (n := x21.pipe) rfl ek ek (decide_eq_false q99)) ?_
       refine Fv (.bool false) ?_
       refine Fs s88 ?_
       refine Fs s88 ?_
       refine Fs s88 ?_
       refine Fs s88 ?_
       refine Fs s88 ?_
       refine Fs s88 ?_
       refine Fs s88 ?_
       refine Fs s88 ?_
       refine Fq (.bool false) (r_pick (b := false) rfl ek ek) ?_
       refine F.es ?_
       have x6 := SG.blk s88 x6 (Option.some_ne_none _)
       have x41 := SG.blk s88 x41 (Option.some_ne_none _)
       have c103 := (SG.belowR c84 s88 (fun kq e => by cases e))
       refine h23 _ _ ?_
       refine wp_cond_false ek ?_
       refine wp_skip ?_
       refine h22 _ _ ?_
       refine W.region_quiet [(0, false), (1, false), (2, false)] kk ?_
       refine Fv (.int .i64 (j : Int)) ?_
       refine Fq (.int .i64 ((j + 1 : Nat) : Int)) (r_add (m := (j : Int)) (n := 1) (z := ((j + 1 : Nat) : Int)) rfl ek ek (by omega) (by omega)) ?_
       refine Fa (.int .i64 ((j + 1 : Nat) : Int)) ?_
       refine F.es ?_
       exact h19 _ _ _ (by omega : ((k + 1) - (j + 1)) < _) ⟨j + 1, Kn.of, rfl, (by omega), (upto_succ (Q := fun z => ¬ (z.pipe = x21.pipe ∧ z.node = x21.node)) hno hx90 (by omega)), x6, x41, c103⟩
      refine Fq (.bool false) (r_lss (m := (j : Int)) (n := (((k + 1) : Nat) : Int)) rfl ek ek (decide_eq_false q85)) ?_
      refine F.es ?_
      refine h21 _ _ ?_
      refine wp_cond_false ek ?_
      refine wp_exit ?_
      refine h10 _ _ ?_
      refine W.region_quiet [(0, false), (1, false), (2, false)] kk ?_
      refine Fv (.int .i64 (((k + 1) : Nat) : Int)) ?_
      refine Fq (.int .i64 (((k + 1) + 1 : Nat) : Int)) (r_add (m := (((k + 1) : Nat) : Int)) (n := 1) (z := (((k + 1) + 1 : Nat) : Int)) rfl ek ek (by omega) (by omega)) ?_
      refine Fa (.int .i64 (((k + 1) + 1 : Nat) : Int)) ?_
      refine F.es ?_
      exact h7 _ _ _ (by omega : (n2 - (k + 1 + 1)) < _) ⟨k + 1 + 1, Kn.of, rfl, (by omega), (okVTo_next hok ((okV_iff hx22).2 ⟨⟨inB_iff.1 q54, (by rw [above_next hx57]; exact decide_eq_true (by omega))⟩, endAt_of (by omega) hx71 (by omega), placed_no hno (by omega)⟩)), x6, c84⟩
     refine Fq (.bool false) (r_neq (m := x70.fr) (n := x21.node) rfl ek ek (decide_eq_false q80)) ?_
     refine Fv (.bool false) ?_
     refine Fs s51 ?_
     refine Fs s51 ?_
     refine Fs s51 ?_
     refine Fs s51 ?_
     refine Fs s51 ?_
     refine Fs s51 ?_
     refine Fs s51 ?_
     refine Fs s51 ?_
     refine Fs s51 ?_
     refine Fq (.bool false) (r_pick (b := false) rfl ek ek) ?_
     refine Fq (.bool false) (r_pick (b := false) rfl ek ek) ?_
     refine F.es ?_
     have x6 := SG.blk s51 x6 (Option.some_ne_none _)
     have x41 := SG.blk s51 x41 (Option.some_ne_none _)
     have c104 := (SG.belowR c48 s51 (fun kq e => by cases e))
     refine h14 _ _ ?_
     refine wp_cond_false ek ?_
     refine wp_skip ?_
     refine h13 _ _ ?_
     refine wk fun K25 h25 => ?_
     refine W.region_quiet [(0, false)] kk ?_
     refine Fa (.int .i64 0) ?_
     refine F.es ?_
     refine h25 _ _ ?_
     refine wp_block ?_
     refine loopK (fun am1 aa1 wl1 => ∃ (j : Nat) , Kn aa1 [(0, .agg #[.int .i64 m, .slice A n c]), (1, .slice A2 n2 c2), (2, .pointer (some ⟨b2, 0, none⟩)), (4, .bool false), (5, .int .i64 (((k + 1) : Nat) : Int)), (6, .pointer (some ⟨b31, 0, none⟩)), (7, .int .i64 (findL ps x21.pipe)), (8, .int .i64 (j : Int)), (16, .bool false), (20, .bool true), (75, .bool false)] 99 ∧ (am1 = (k + 1) - j) ∧ (j ≤ k + 1) ∧ (∀ i z, i < j → vs[i]? = some z → ¬ (z.pipe = x21.pipe ∧ z.node = x21.node)) ∧ (wl1.heap[b2]? = some (.cells #[.int .i64 m, .slice A n c] 26 (0, 0))) ∧ (wl1.heap[b31]? = some (.cells #[.int .i64 x21.id, .int .i64 x21.pipe, .int .i64 x21.node, .bool x21.shut] 40 (0, 0))) ∧ (Below w.heap.size w wl1)) ((k + 1) - 0) ?_ ?_
     ·exact ⟨0, Kn.of, rfl, (Nat.zero_le _), (fun i z hi => absurd hi (by omega)), x6, x41, c104⟩
     rintro am1 aa1 wl1 K26 h26 ⟨j, ⟨U1, rfl⟩, rfl, hj, hno, x6, x41, c105⟩
     refine wk fun K27 h27 => ?_
     refine wk fun K28 h28 => ?_
     refine W.region_quiet [(0, false), (1, false), (2, false)] kk ?_
     refine Fv (.int .i64 (j : Int)) ?_
     refine Fv (.int .i64 (((k + 1) : Nat) : Int)) ?_
     by_cases q106 : ((j : Int) : Int) < ((((k + 1) : Nat) : Int) : Int)
     ·refine Fq (.bool true) (r_lss (m := (j : Int)) (n := (((k + 1) : Nat) : Int)) rfl ek ek (decide_eq_true q106)) ?_
      refine F.es ?_
      refine h28 _ _ ?_
      refine wp_cond_true ek ?_
      refine wp_skip ?_
      refine h27 _ _ ?_
      refine wk fun K29 h29 => ?_
      refine wp_block ?_
      refine wk fun K30 h30 => ?_
      refine W.region_sch (row := none) (Sch.of [(0, false), (1, false), (2, false), (3, false), (4, false), (5, false), (6, false), (7, false), (8, false), (9, false), (10, false), (11, false), (12, false), (13, false), (14, false), (15, false), (16, false), (17, false)]) kk kk (fun _ d _ _ _ h => by cases d <;> exact h) kk (fun w107 e108 s109 => ?_)
      refine Fv (.slice A2 n2 c2) ?_
      refine Fv (.int .i64 (j : Int)) ?_
      obtain ⟨x110, hx111⟩ := get_of (zs := vs) (k := j) (by have := hl2; omega)
      obtain ⟨b112, o113, hA114, hb115, hc116, hc117, hc118, hc119⟩ := Rd.elValve hb hx111
      refine Fq (.pointer (some ⟨b112, o113 + j * 4, none⟩)) (r_idx (n := n2) (c := c2) (k := j) rfl ek hA114 kk kk (by have := hl2; omega)) ?_
      refine Fq (.pointer (some ⟨b112, o113 + j * 4 + 1, none⟩)) (r_field (k := 1) rfl ek kk) ?_
      refine Fl (.int .i64 x110.pipe) (sgS (later c105 hc117) (by simp)) ?_
      refine Fq (.pointer (some ⟨b31, 1, none⟩)) (r_field (k := 1) rfl ek kk) ?_
      refine Fl (.int .i64 x21.pipe) (sgS (blk_cell (j := 1) x41 kk) (Option.some_ne_none _)) ?_
      by_cases q120 : (x110.pipe : Int) = (x21.pipe : Int)
      ·refine Fq (.bool true) (r_eql (m := x110.pipe) (n := x21.pipe) rfl ek ek (decide_eq_true q120)) ?_
       refine Fv (.bool true) ?_
       refine Fv (.slice A2 n2 c2) ?_
       refine Fv (.int .i64 (j : Int)) ?_
       refine Fq (.pointer (some ⟨b112, o113 + j * 4, none⟩)) (r_idx (n := n2) (c := c2) (k := j) rfl ek hA114 kk kk (by have := hl2; omega)) ?_
       refine Fq (.pointer (some ⟨b112, o113 + j * 4 + 2, none⟩)) (r_field (k := 2) rfl ek kk) ?_
       refine Fl (.int .i64 x110.node) (sgS (later c105 hc118) (by simp)) ?_
       refine Fq (.pointer (some ⟨b31, 2, none⟩)) (r_field (k := 2) rfl ek kk) ?_
       refine Fl (.int .i64 x21.node) (sgS (blk_cell (j := 2) x41 kk) (Option.some_ne_none _)) ?_
       by_cases q121 : (x110.node : Int) = (x21.node : Int)
       ·refine Fq (.bool true) (r_eql (m := x110.node) (n := x21.node) rfl ek ek (decide_eq_true q121)) ?_
        refine Fq (.bool true) (r_pick (b := true) rfl ek ek) ?_
        refine F.es ?_
        have x6 := SG.blk s109 x6 (Option.some_ne_none _)
        have x41 := SG.blk s109 x41 (Option.some_ne_none _)
        have c122 := (SG.belowR c105 s109 (fun kq e => by cases e))
        refine h30 _ _ ?_
        refine wp_cond_true ek ?_
        refine wk fun K31 h31 => ?_
        refine W.region_quiet [(0, false)] kk ?_
        refine Fa (.bool false) ?_
        refine F.es ?_
        refine h31 _ _ ?_
        refine wp_ret ?_
        try simp only [Exit.then, Exit.inBlock]
        refine ret1 (v := .bool false) rfl kk ?_
        have e8 : okV ps vs (k + 1) = false := Bool.eq_false_iff.2 (fun h9 => by
          have h8 := (okV_iff hx22).1 h9
          obtain ⟨⟨hA, hB⟩, hC, hD⟩ := h8
          obtain ⟨hC0, p9, hp9, hC1⟩ := endAt_pos hC
          have hB' := of_decide_eq_true ((above_next hx57).symm.trans hB)
          obtain rfl := Option.some.inj (hp9.symm.trans hx71)
          exact absurd (placed_yes (k := k + 1) (a := x21.pipe) (b := x21.node) hx111 (by omega) q120 q121) (by rw [hD]; simp))
        exact ⟨ret_bool (goodV_bad (k := k + 1) (by omega) e8).symm, c122⟩
       refine Fq (.bool false) (r_eql (m := x110.node) (n := x21.node) rfl ek ek (decide_eq_false q121)) ?_
       refine Fq (.bool false) (r_pick (b := true) rfl ek ek) ?_
       refine F.es ?_
       have x6 := SG.blk s109 x6 (Option.some_ne_none _)
       have x41 := SG.blk s109 x41 (Option.some_ne_none _)
       have c123 := (SG.belowR c105 s109 (fun kq e => by cases e))
       refine h30 _ _ ?_
       refine wp_cond_false ek ?_
       refine wp_skip ?_
       refine h29 _ _ ?_
       refine W.region_quiet [(0, false), (1, false), (2, false)] kk ?_
       refine Fv (.int .i64 (j : Int)) ?_
       refine Fq (.int .i64 ((j + 1 : Nat) : Int)) (r_add (m := (j : Int)) (n := 1) (z := ((j + 1 : Nat) : Int)) rfl ek ek (by omega) (by omega)) ?_
       refine Fa (.int .i64 ((j + 1 : Nat) : Int)) ?_
       refine F.es ?_
       exact h26 _ _ _ (by omega : ((k + 1) - (j + 1)) < _) ⟨j + 1, Kn.of, rfl, (by omega), (upto_succ (Q := fun z => ¬ (z.pipe = x21.pipe ∧ z.node = x21.node)) hno hx111 (by omega)), x6, x41, c123⟩
      refine Fq (.bool false) (r_eql (m := x110.pipe) (n := x21.pipe) rfl ek ek (decide_eq_false q120)) ?_
      refine Fv (.bool false) ?_
      refine Fs s109 ?_
      refine Fs s109 ?_
      refine Fs s109 ?_
      refine Fs s109 ?_
      refine Fs s109 ?_
      refine Fs s109 ?_
      refine Fs s109 ?_
      refine Fs s109 ?_
      refine Fq (.bool false) (r_pick (b := false) rfl ek ek) ?_
      refine F.es ?_
      have x6 := SG.blk s109 x6 (Option.some_ne_none _)
      have x41 := SG.blk s109 x41 (Option.some_ne_none _)
      have c124 := (SG.belowR c105 s109 (fun kq e => by cases e))
      refine h30 _ _ ?_
      refine wp_cond_false ek ?_
      refine wp_skip ?_
      refine h29 _ _ ?_
      refine W.region_quiet [(0, false), (1, false), (2, false)] kk ?_
      refine Fv (.int .i64 (j : Int)) ?_
      refine Fq (.int .i64 ((j + 1 : Nat) : Int)) (r_add (m := (j : Int)) (n := 1) (z := ((j + 1 : Nat) : Int)) rfl ek ek (by omega) (by omega)) ?_
      refine Fa (.int .i64 ((j + 1 : Nat) : Int)) ?_
      refine F.es ?_
      exact h26 _ _ _ (by omega : ((k + 1) - (j + 1)) < _) ⟨j + 1, Kn.of, rfl, (by omega), (upto_succ (Q := fun z => ¬ (z.pipe = x21.pipe ∧ z.node = x21.node)) hno hx111 (by omega)), x6, x41, c124⟩
     refine Fq (.bool false) (r_lss (m := (j : Int)) (n := (((k + 1) : Nat) : Int)) rfl ek ek (decide_eq_false q106)) ?_
     refine F.es ?_
     refine h28 _ _ ?_
     refine wp_cond_false ek ?_
     refine wp_exit ?_
     refine h10 _ _ ?_
     refine W.region_quiet [(0, false), (1, false), (2, false)] kk ?_
     refine Fv (.int .i64 (((k + 1) : Nat) : Int)) ?_
     refine Fq (.int .i64 (((k + 1) + 1 : Nat) : Int)) (r_add (m := (((k + 1) : Nat) : Int)) (n := 1) (z := (((k + 1) + 1 : Nat) : Int)) rfl ek ek (by omega) (by omega)) ?_
     refine Fa (.int .i64 (((k + 1) + 1 : Nat) : Int)) ?_
     refine F.es ?_
     exact h7 _ _ _ (by omega : (n2 - (k + 1 + 1)) < _) ⟨k + 1 + 1, Kn.of, rfl, (by omega), (okVTo_next hok ((okV_iff hx22).2 ⟨⟨inB_iff.1 q54, (by rw [above_next hx57]; exact decide_eq_true (by omega))⟩, endAt_of (by omega) hx71 (by omega), placed_no hno (by omega)⟩)), x6, c105⟩
    refine Fq (.bool false) (r_gtr (m := (K : Int)) (n := 0) rfl ek ek (decide_eq_false q55)) ?_
    refine Fv (.bool false) ?_
    refine Fs s51 ?_
    refine Fs s51 ?_
    refine Fs s51 ?_
    refine Fs s51 ?_
    refine Fs s51 ?_
    refine Fs s51 ?_
    refine Fs s51 ?_
    refine Fs s51 ?_
    refine Fs s51 ?_
    refine Fq (.bool false) (r_pick (b := false) rfl ek ek) ?_
    refine Fq (.bool false) (r_pick (b := false) rfl ek ek) ?_
    refine Fv (.bool false) ?_
    refine Fv (.int .i64 (findL ps x21.pipe)) ?_
    by_cases q125 : (findL ps x21.pipe : Int) < (0 : Int)
    ·refine Fq (.bool true) (r_lss (m := findL ps x21.pipe) (n := 0) rfl ek ek (decide_eq_true q125)) ?_
     refine Fq (.bool true) (r_pick (b := false) rfl ek ek) ?_
     refine Fv (.bool true) ?_
     refine Fs s51 ?_
     refine Fs s51 ?_
     refine Fs s51 ?_
     refine Fs s51 ?_
     refine Fs s51 ?_
     refine Fs s51 ?_
     refine Fs s51 ?_
     refine Fs s51 ?_
     refine Fs s51 ?_
     refine Fs s51 ?_
     refine Fs s51 ?_
     refine Fs s51 ?_
     refine Fs s51 ?_
     refine Fs s51 ?_
     refine Fs s51 ?_
     refine Fs s51 ?_
     refine Fs s51 ?_
     refine Fs s51 ?_
     refine Fs s51 ?_
     refine Fs s51 ?_
     refine Fq (.bool true) (r_pick (b := true) rfl ek ek) ?_
     refine F.es ?_
     have x6 := SG.blk s51 x6 (Option.some_ne_none _)
     have x41 := SG.blk s51 x41 (Option.some_ne_none _)
     have c126 := (SG.belowR c48 s51 (fun kq e => by cases e))
     refine h14 _ _ ?_
     refine wp_cond_true ek ?_
     refine wk fun K32 h32 => ?_
     refine W.region_quiet [(0, false)] kk ?_
     refine Fa (.bool false) ?_
     refine F.es ?_
     refine h32 _ _ ?_
     refine wp_ret ?_
     try simp only [Exit.then, Exit.inBlock]
     refine ret1 (v := .bool false) rfl kk ?_
     have e8 : okV ps vs (K) = false := Bool.eq_false_iff.2 (fun h9 => by
       have h8 := (okV_iff hx22).1 h9
       obtain ⟨⟨hA, hB⟩, hC, hD⟩ := h8
       obtain ⟨hC0, p9, hp9, hC1⟩ := endAt_pos hC
       first | omega | (rw [inB_iff.2 hA] at q54; cases q54))
     exact ⟨ret_bool (goodV_bad (k := K) (by omega) e8).symm, c126⟩
    refine Fq (.bool false) (r_lss (m := findL ps x21.pipe) (n := 0) rfl ek ek (decide_eq_false q125)) ?_
    refine Fq (.bool false) (r_pick (b := false) rfl ek ek) ?_
    refine Fv (.bool false) ?_
    refine Fq (.pointer (some ⟨b2, 1, none⟩)) (r_field (k := 1) rfl ek kk) ?_
    refine Fl (.slice A n c) (sgS (blk_cell (j := 1) x6 kk) (Option.some_ne_none _)) ?_
    refine Fv (.int .i64 (findL ps x21.pipe)) ?_
    have hfl := findL_lt ps x21.pipe
    obtain ⟨x127, hx128⟩ := get_of (zs := ps) (k := (findL ps x21.pipe).toNat) (by have := hl; omega)
    obtain ⟨b129, o130, hA131, hb132, hc133, hc134, hc135, hc136⟩ := Rd.elPipe ha hx128
    refine Fq (.pointer (some ⟨b129, o130 + ((findL ps x21.pipe).toNat) * 4, none⟩)) (r_idx (n := n) (c := c) (k := (findL ps x21.pipe).toNat) rfl ek hA131 (evk (z := findL ps x21.pipe) kk (by omega)) kk (by have := hl; omega)) ?_
    refine Fq (.pointer (some ⟨b129, o130 + ((findL ps x21.pipe).toNat) * 4 + 1, none⟩)) (r_field (k := 1) rfl ek kk) ?_
    refine Fl (.int .i64 x127.fr) (sgS (later c48 hc134) (by simp)) ?_
    refine Fq (.pointer (some ⟨b31, 2, none⟩)) (r_field (k := 2) rfl ek kk) ?_
    refine Fl (.int .i64 x21.node) (sgS (blk_cell (j := 2) x41 kk) (Option.some_ne_none _)) ?_
    by_cases q137 : (x127.fr : Int) ≠ (x21.node : Int)
    ·refine Fq (.bool true) (r_neq (m := x127.fr) (n := x21.node) rfl ek ek (decide_eq_true q137)) ?_
     refine Fv (.bool true) ?_
     refine Fq (.pointer (some ⟨b2, 1, none⟩)) (r_field (k := 1) rfl ek kk) ?_
     refine Fl (.slice A n c) (sgS (blk_cell (j := 1) x6 kk) (Option.some_ne_none _)) ?_
     refine Fv (.int .i64 (findL ps x21.pipe)) ?_
     refine Fq (.pointer (some ⟨b129, o130 + ((findL ps x21.pipe).toNat) * 4, none⟩)) (r_idx (n := n) (c := c) (k := (findL ps x21.pipe).toNat) rfl ek hA131 (evk (z := findL ps x21.pipe) kk (by omega)) kk (by have := hl; omega)) ?_
     refine Fq (.pointer (some ⟨b129, o130 + ((findL ps x21.pipe).toNat) * 4 + 2, none⟩)) (r_field (k := 2) rfl ek kk) ?_
     refine Fl (.int .i64 x127.to) (sgS (later c48 hc135) (by simp)) ?_
     refine Fq (.pointer (some ⟨b31, 2, none⟩)) (r_field (k := 2) rfl ek kk) ?_
     refine Fl (.int .i64 x21.node) (sgS (blk_cell (j := 2) x41 kk) (Option.some_ne_none _)) ?_
     by_cases q138 : (x127.to : Int) ≠ (x21.node : Int)
     ·refine Fq (.bool true) (r_neq (m := x127.to) (n := x21.node) rfl ek ek (decide_eq_true q138)) ?_
      refine Fq (.bool true) (r_pick (b := true) rfl ek ek) ?_
      refine Fq (.bool true) (r_pick (b := false) rfl ek ek) ?_
      refine F.es ?_
      have x6 := SG.blk s51 x6 (Option.some_ne_none _)
      have x41 := SG.blk s51 x41 (Option.some_ne_none _)
      have c139 := (SG.belowR c48 s51 (fun kq e => by cases e))
      refine h14 _ _ ?_
      refine wp_cond_true ek ?_
      refine wk fun K33 h33 => ?_
      refine W.region_quiet [(0, false)] kk ?_
      refine Fa (.bool false) ?_
      refine F.es ?_
      refine h33 _ _ ?_
      refine wp_ret ?_
      try simp only [Exit.then, Exit.inBlock]
      refine ret1 (v := .bool false) rfl kk ?_
      have e8 : okV ps vs (K) = false := Bool.eq_false_iff.2 (fun h9 => by
        have h8 := (okV_iff hx22).1 h9
        obtain ⟨⟨hA, hB⟩, hC, hD⟩ := h8
        obtain ⟨hC0, p9, hp9, hC1⟩ := endAt_pos hC
        obtain rfl := Option.some.inj (hp9.symm.trans hx128)
        first | omega | (rw [inB_iff.2 hA] at q54; cases q54))
      exact ⟨ret_bool (goodV_bad (k := K) (by omega) e8).symm, c139⟩
     refine Fq (.bool false) (r_neq (m := x127.to) (n := x21.node) rfl ek ek (decide_eq_false q138)) ?_
     refine Fq (.bool false) (r_pick (b := true) rfl ek ek) ?_
     refine Fq (.bool false) (r_pick (b := false) rfl ek ek) ?_
     refine F.es ?_
     have x6 := SG.blk s51 x6 (Option.some_ne_none _)
     have x41 := SG.blk s51 x41 (Option.some_ne_none _)
     have c140 := (SG.belowR c48 s51 (fun kq e => by cases e))
     refine h14 _ _ ?_
     refine wp_cond_false ek ?_
     refine wp_skip ?_
     refine h13 _ _ ?_
     refine wk fun K34 h34 => ?_
     refine W.region_quiet [(0, false)] kk ?_
     refine Fa (.int .i64 0) ?_
     refine F.es ?_
     refine h34 _ _ ?_
     refine wp_block ?_
     refine loopK (fun am1 aa1 wl1 => ∃ (j : Nat) , Kn aa1 [(0, .agg #[.int .i64 m, .slice A n c]), (1, .slice A2 n2 c2), (2, .pointer (some ⟨b2, 0, none⟩)), (4, .bool false), (5, .int .i64 (K : Int)), (6, .pointer (some ⟨b31, 0, none⟩)), (7, .int .i64 (findL ps x21.pipe)), (8, .int .i64 (j : Int)), (16, .bool false), (20, .bool true), (75, .bool false)] 99 ∧ (am1 = (K) - j) ∧ (j ≤ K) ∧ (∀ i z, i < j → vs[i]? = some z → ¬ (z.pipe = x21.pipe ∧ z.node = x21.node)) ∧ (wl1.heap[b2]? = some (.cells #[.int .i64 m, .slice A n c] 26 (0, 0))) ∧ (wl1.heap[b31]? = some (.cells #[.int .i64 x21.id, .int .i64 x21.pipe, .int .i64 x21.node, .bool x21.shut] 40 (0, 0))) ∧ (Below w.heap.size w wl1)) ((K) - 0) ?_ ?_
     ·exact ⟨0, Kn.of, rfl, (Nat.zero_le _), (fun i z hi => absurd hi (by omega)), x6, x41, c140⟩
     rintro am1 aa1 wl1 K35 h35 ⟨j, ⟨U1, rfl⟩, rfl, hj, hno, x6, x41, c141⟩
     refine wk fun K36 h36 => ?_
     refine wk fun K37 h37 => ?_
     refine W.region_quiet [(0, false), (1, false), (2, false)] kk ?_
     refine Fv (.int .i64 (j : Int)) ?_
     refine Fv (.int .i64 (K : Int)) ?_
     by_cases q142 : ((j : Int) : Int) < ((K : Int) : Int)
     ·refine Fq (.bool true) (r_lss (m := (j : Int)) (n := (K : Int)) rfl ek ek (decide_eq_true q142)) ?_
      refine F.es ?_
      refine h37 _ _ ?_
      refine wp_cond_true ek ?_
      refine wp_skip ?_
      refine h36 _ _ ?_
      refine wk fun K38 h38 => ?_
      refine wp_block ?_
      refine wk fun K39 h39 => ?_
      refine W.region_sch (row := none) (Sch.of [(0, false), (1, false), (2, false), (3, false), (4, false), (5, false), (6, false), (7, false), (8, false), (9, false), (10, false), (11, false), (12, false), (13, false), (14, false), (15, false), (16, false), (17, false)]) kk kk (fun _ d _ _ _ h => by cases d <;> exact h) kk (fun w143 e144 s145 => ?_)
      refine Fv (.slice A2 n2 c2) ?_
      refine Fv (.int .i64 (j : Int)) ?_
      obtain ⟨x146, hx147⟩ := get_of (zs := vs) (k := j) (by have := hl2; omega)
      obtain ⟨b148, o149, hA150, hb151, hc152, hc153, hc154, hc155⟩ := Rd.elValve hb hx147
      refine Fq (.pointer (some ⟨b148, o149 + j * 4, none⟩)) (r_idx (n := n2) (c := c2) (k := j) rfl ek hA150 kk kk (by have := hl2; omega)) ?_
      refine Fq (.pointer (some ⟨b148, o149 + j * 4 + 1, none⟩)) (r_field (k := 1) rfl ek kk) ?_
      refine Fl (.int .i64 x146.pipe) (sgS (later c141 hc153) (by simp)) ?_
      refine Fq (.pointer (some ⟨b31, 1, none⟩)) (r_field (k := 1) rfl ek kk) ?_
      refine Fl (.int .i64 x21.pipe) (sgS (blk_cell (j := 1) x41 kk) (Option.some_ne_none _)) ?_
      by_cases q156 : (x146.pipe : Int) = (x21.pipe : Int)
      ·refine Fq (.bool true) (r_eql (m := x146.pipe) (n := x21.pipe) rfl ek ek (decide_eq_true q156)) ?_
       refine Fv (.bool true) ?_
       refine Fv (.slice A2 n2 c2) ?_
       refine Fv (.int .i64 (j : Int)) ?_
       refine Fq (.pointer (some ⟨b148, o149 + j * 4, none⟩)) (r_idx (n := n2) (c := c2) (k := j) rfl ek hA150 kk kk (by have := hl2; omega)) ?_
       refine Fq (.pointer (some ⟨b148, o149 + j * 4 + 2, none⟩)) (r_field (k := 2) rfl ek kk) ?_
       refine Fl (.int .i64 x146.node) (sgS (later c141 hc154) (by simp)) ?_
       refine Fq (.pointer (some ⟨b31, 2, none⟩)) (r_field (k := 2) rfl ek kk) ?_
       refine Fl (.int .i64 x21.node) (sgS (blk_cell (j := 2) x41 kk) (Option.some_ne_none _)) ?_
       by_cases q157 : (x146.node : Int) = (x21.node : Int)
       ·refine Fq (.bool true) (r_eql (m := x146.node) (n := x21.node) rfl ek ek (decide_eq_true q157)) ?_
        refine Fq (.bool true) (r_pick (b := true) rfl ek ek) ?_
        refine F.es ?_
        have x6 := SG.blk s145 x6 (Option.some_ne_none _)
        have x41 := SG.blk s145 x41 (Option.some_ne_none _)
        have c158 := (SG.belowR c141 s145 (fun kq e => by cases e))
        refine h39 _ _ ?_
        refine wp_cond_true ek ?_
        refine wk fun K40 h40 => ?_
        refine W.region_quiet [(0, false)] kk ?_
        refine Fa (.bool false) ?_
        refine F.es ?_
        refine h40 _ _ ?_
        refine wp_ret ?_
        try simp only [Exit.then, Exit.inBlock]
        refine ret1 (v := .bool false) rfl kk ?_
        have e8 : okV ps vs (K) = false := Bool.eq_false_iff.2 (fun h9 => by
          have h8 := (okV_iff hx22).1 h9
          obtain ⟨⟨hA, hB⟩, hC, hD⟩ := h8
          obtain ⟨hC0, p9, hp9, hC1⟩ := endAt_pos hC
          obtain rfl := Option.some.inj (hp9.symm.trans hx128)
          exact absurd (placed_yes (k := K) (a := x21.pipe) (b := x21.node) hx147 (by omega) q156 q157) (by rw [hD]; simp))
        exact ⟨ret_bool (goodV_bad (k := K) (by omega) e8).symm, c158⟩
       refine Fq (.bool false) (r_eql (m := x146.node) (n := x21.node) rfl ek ek (decide_eq_false q157)) ?_
       refine Fq (.bool false) (r_pick (b := true) rfl ek ek) ?_
       refine F.es ?_
       have x6 := SG.blk s145 x6 (Option.some_ne_none _)
       have x41 := SG.blk s145 x41 (Option.some_ne_none _)
       have c159 := (SG.belowR c141 s145 (fun kq e => by cases e))
       refine h39 _ _ ?_
       refine wp_cond_false ek ?_
       refine wp_skip ?_
       refine h38 _ _ ?_
       refine W.region_quiet [(0, false), (1, false), (2, false)] kk ?_
       refine Fv (.int .i64 (j : Int)) ?_
       refine Fq (.int .i64 ((j + 1 : Nat) : Int)) (r_add (m := (j : Int)) (n := 1) (z := ((j + 1 : Nat) : Int)) rfl ek ek (by omega) (by omega)) ?_
       refine Fa (.int .i64 ((j + 1 : Nat) : Int)) ?_
       refine F.es ?_
       exact h35 _ _ _ (by omega : ((K) - (j + 1)) < _) ⟨j + 1, Kn.of, rfl, (by omega), (upto_succ (Q := fun z => ¬ (z.pipe = x21.pipe ∧ z.node = x21.node)) hno hx147 (by omega)), x6, x41, c159⟩
      refine Fq (.bool false) (r_eql (m := x146.pipe) (n := x21.pipe) rfl ek ek (decide_eq_false q156)) ?_
      refine Fv (.bool false) ?_
      refine Fs s145 ?_
      refine Fs s145 ?_
      refine Fs s145 ?_
      refine Fs s145 ?_
      refine Fs s145 ?_
      refine Fs s145 ?_
      refine Fs s145 ?_
      refine Fs s145 ?_
      refine Fq (.bool false) (r_pick (b := false) rfl ek ek) ?_
      refine F.es ?_
      have x6 := SG.blk s145 x6 (Option.some_ne_none _)
      have x41 := SG.blk s145 x41 (Option.some_ne_none _)
      have c160 := (SG.belowR c141 s145 (fun kq e => by cases e))
      refine h39 _ _ ?_
      refine wp_cond_false ek ?_
      refine wp_skip ?_
      refine h38 _ _ ?_
      refine W.region_quiet [(0, false), (1, false), (2, false)] kk ?_
      refine Fv (.int .i64 (j : Int)) ?_
      refine Fq (.int .i64 ((j + 1 : Nat) : Int)) (r_add (m := (j : Int)) (n := 1) (z := ((j + 1 : Nat) : Int)) rfl ek ek (by omega) (by omega)) ?_
      refine Fa (.int .i64 ((j + 1 : Nat) : Int)) ?_
      refine F.es ?_
      exact h35 _ _ _ (by omega : ((K) - (j + 1)) < _) ⟨j + 1, Kn.of, rfl, (by omega), (upto_succ (Q := fun z => ¬ (z.pipe = x21.pipe ∧ z.node = x21.node)) hno hx147 (by omega)), x6, x41, c160⟩
     refine Fq (.bool false) (r_lss (m := (j : Int)) (n := (K : Int)) rfl ek ek (decide_eq_false q142)) ?_
     refine F.es ?_
     refine h37 _ _ ?_
     refine wp_cond_false ek ?_
     refine wp_exit ?_
     refine h10 _ _ ?_
     refine W.region_quiet [(0, false), (1, false), (2, false)] kk ?_
     refine Fv (.int .i64 (K : Int)) ?_
     refine Fq (.int .i64 ((K + 1 : Nat) : Int)) (r_add (m := (K : Int)) (n := 1) (z := ((K + 1 : Nat) : Int)) rfl ek ek (by omega) (by omega)) ?_
     refine Fa (.int .i64 ((K + 1 : Nat) : Int)) ?_
     refine F.es ?_
     exact h7 _ _ _ (by omega : (n2 - (K + 1)) < _) ⟨K + 1, Kn.of, rfl, (by omega), (okVTo_next hok ((okV_iff hx22).2 ⟨⟨inB_iff.1 q54, (by have e0 : K = 0 := (by omega); subst e0; exact above_zero)⟩, endAt_of (by omega) hx128 (by omega), placed_no hno (by omega)⟩)), x6, c141⟩
    refine Fq (.bool false) (r_neq (m := x127.fr) (n := x21.node) rfl ek ek (decide_eq_false q137)) ?_
    refine Fv (.bool false) ?_
    refine Fs s51 ?_
    refine Fs s51 ?_
    refine Fs s51 ?_
    refine Fs s51 ?_
    refine Fs s51 ?_
    refine Fs s51 ?_
    refine Fs s51 ?_
    refine Fs s51 ?_
    refine Fs s51 ?_
    refine Fq (.bool false) (r_pick (b := false) rfl ek ek) ?_
    refine Fq (.bool false) (r_pick (b := false) rfl ek ek) ?_
    refine F.es ?_
    have x6 := SG.blk s51 x6 (Option.some_ne_none _)
    have x41 := SG.blk s51 x41 (Option.some_ne_none _)
    have c161 := (SG.belowR c48 s51 (fun kq e => by cases e))
    refine h14 _ _ ?_
    refine wp_cond_false ek ?_
    refine wp_skip ?_
    refine h13 _ _ ?_
    refine wk fun K41 h41 => ?_
    refine W.region_quiet [(0, false)] kk ?_
    refine Fa (.int .i64 0) ?_
    refine F.es ?_
    refine h41 _ _ ?_
    refine wp_block ?_
    refine loopK (fun am1 aa1 wl1 => ∃ (j : Nat) , Kn aa1 [(0, .agg #[.int .i64 m, .slice A n c]), (1, .slice A2 n2 c2), (2, .pointer (some ⟨b2, 0, none⟩)), (4, .bool false), (5, .int .i64 (K : Int)), (6, .pointer (some ⟨b31, 0, none⟩)), (7, .int .i64 (findL ps x21.pipe)), (8, .int .i64 (j : Int)), (16, .bool false), (20, .bool true), (75, .bool false)] 99 ∧ (am1 = (K) - j) ∧ (j ≤ K) ∧ (∀ i z, i < j → vs[i]? = some z → ¬ (z.pipe = x21.pipe ∧ z.node = x21.node)) ∧ (wl1.heap[b2]? = some (.cells #[.int .i64 m, .slice A n c] 26 (0, 0))) ∧ (wl1.heap[b31]? = some (.cells #[.int .i64 x21.id, .int .i64 x21.pipe, .int .i64 x21.node, .bool x21.shut] 40 (0, 0))) ∧ (Below w.heap.size w wl1)) ((K) - 0) ?_ ?_
    ·exact ⟨0, Kn.of, rfl, (Nat.zero_le _), (fun i z hi => absurd hi (by omega)), x6, x41, c161⟩
    rintro am1 aa1 wl1 K42 h42 ⟨j, ⟨U1, rfl⟩, rfl, hj, hno, x6, x41, c162⟩
    refine wk fun K43 h43 => ?_
    refine wk fun K44 h44 => ?_
    refine W.region_quiet [(0, false), (1, false), (2, false)] kk ?_
    refine Fv (.int .i64 (j : Int)) ?_
    refine Fv (.int .i64 (K : Int)) ?_
    by_cases q163 : ((j : Int) : Int) < ((K : Int) : Int)
    ·refine Fq (.bool true) (r_lss (m := (j : Int)) (n := (K : Int)) rfl ek ek (decide_eq_true q163)) ?_
     refine F.es ?_
     refine h44 _ _ ?_
     refine wp_cond_true ek ?_
     refine wp_skip ?_
     refine h43 _ _ ?_
     refine wk fun K45 h45 => ?_
     refine wp_block ?_
     refine wk fun K46 h46 => ?_
     refine W.region_sch (row := none) (Sch.of [(0, false), (1, false), (2, false), (3, false), (4, false), (5, false), (6, false), (7, false), (8, false), (9, false), (10, false), (11, false), (12, false), (13, false), (14, false), (15, false), (16, false), (17, false)]) kk kk (fun _ d _ _ _ h => by cases d <;> exact h) kk (fun w164 e165 s166 => ?_)
     refine Fv (.slice A2 n2 c2) ?_
     refine Fv (.int .i64 (j : Int)) ?_
     obtain ⟨x167, hx168⟩ := get_of (zs := vs) (k := j) (by have := hl2; omega)
     obtain ⟨b169, o170, hA171, hb172, hc173, hc174, hc175, hc176⟩ := Rd.elValve hb hx168
     refine Fq (.pointer (some ⟨b169, o170 + j * 4, none⟩)) (r_idx (n := n2) (c := c2) (k := j) rfl ek hA171 kk kk (by have := hl2; omega)) ?_
     refine Fq (.pointer (some ⟨b169, o170 + j * 4 + 1, none⟩)) (r_field (k := 1) rfl ek kk) ?_
     refine Fl (.int .i64 x167.pipe) (sgS (later c162 hc174) (by simp)) ?_
     refine Fq (.pointer (some ⟨b31, 1, none⟩)) (r_field (k := 1) rfl ek kk) ?_
     refine Fl (.int .i64 x21.pipe) (sgS (blk_cell (j := 1) x41 kk) (Option.some_ne_none _)) ?_
     by_cases q177 : (x167.pipe : Int) = (x21.pipe : Int)
     ·refine Fq (.bool true) (r_eql (m := x167.pipe) (n := x21.pipe) rfl ek ek (decide_eq_true q177)) ?_
      refine Fv (.bool true) ?_
      refine Fv (.slice A2 n2 c2) ?_
      refine Fv (.int .i64 (j : Int)) ?_
      refine Fq (.pointer (some ⟨b169, o170 + j * 4, none⟩)) (r_idx (n := n2) (c := c2) (k := j) rfl ek hA171 kk kk (by have := hl2; omega)) ?_
      refine Fq (.pointer (some ⟨b169, o170 + j * 4 + 2, none⟩)) (r_field (k := 2) rfl ek kk) ?_
      refine Fl (.int .i64 x167.node) (sgS (later c162 hc175) (by simp)) ?_
      refine Fq (.pointer (some ⟨b31, 2, none⟩)) (r_field (k := 2) rfl ek kk) ?_
      refine Fl (.int .i64 x21.node) (sgS (blk_cell (j := 2) x41 kk) (Option.some_ne_none _)) ?_
      by_cases q178 : (x167.node : Int) = (x21.node : Int)
      ·refine Fq (.bool true) (r_eql (m := x167.node) (n := x21.node) rfl ek ek (decide_eq_true q178)) ?_
       refine Fq (.bool true) (r_pick (b := true) rfl ek ek) ?_
       refine F.es ?_
       have x6 := SG.blk s166 x6 (Option.some_ne_none _)
       have x41 := SG.blk s166 x41 (Option.some_ne_none _)
       have c179 := (SG.belowR c162 s166 (fun kq e => by cases e))
       refine h46 _ _ ?_
       refine wp_cond_true ek ?_
       refine wk fun K47 h47 => ?_
       refine W.region_quiet [(0, false)] kk ?_
       refine Fa (.bool false) ?_
       refine F.es ?_
       refine h47 _ _ ?_
       refine wp_ret ?_
       try simp only [Exit.then, Exit.inBlock]
       refine ret1 (v := .bool false) rfl kk ?_
       have e8 : okV ps vs (K) = false := Bool.eq_false_iff.2 (fun h9 => by
         have h8 := (okV_iff hx22).1 h9
         obtain ⟨⟨hA, hB⟩, hC, hD⟩ := h8
         obtain ⟨hC0, p9, hp9, hC1⟩ := endAt_pos hC
         obtain rfl := Option.some.inj (hp9.symm.trans hx128)
         exact absurd (placed_yes (k := K) (a := x21.pipe) (b := x21.node) hx168 (by omega) q177 q178) (by rw [hD]; simp))
       exact ⟨ret_bool (goodV_bad (k := K) (by omega) e8).symm, c179⟩
      refine Fq (.bool false) (r_eql (m := x167.node) (n := x21.node) rfl ek ek (decide_eq_false q178)) ?_
      refine Fq (.bool false) (r_pick (b := true) rfl ek ek) ?_
      refine F.es ?_
      have x6 := SG.blk s166 x6 (Option.some_ne_none _)
      have x41 := SG.blk s166 x41 (Option.some_ne_none _)
      have c180 := (SG.belowR c162 s166 (fun kq e => by cases e))
      refine h46 _ _ ?_
      refine wp_cond_false ek ?_
      refine wp_skip ?_
      refine h45 _ _ ?_
      refine W.region_quiet [(0, false), (1, false), (2, false)] kk ?_
      refine Fv (.int .i64 (j : Int)) ?_
      refine Fq (.int .i64 ((j + 1 : Nat) : Int)) (r_add (m := (j : Int)) (n := 1) (z := ((j + 1 : Nat) : Int)) rfl ek ek (by omega) (by omega)) ?_
      refine Fa (.int .i64 ((j + 1 : Nat) : Int)) ?_
      refine F.es ?_
      exact h42 _ _ _ (by omega : ((K) - (j + 1)) < _) ⟨j + 1, Kn.of, rfl, (by omega), (upto_succ (Q := fun z => ¬ (z.pipe = x21.pipe ∧ z.node = x21.node)) hno hx168 (by omega)), x6, x41, c180⟩
     refine Fq (.bool false) (r_eql (m := x167.pipe) (n := x21.pipe) rfl ek ek (decide_eq_false q177)) ?_
     refine Fv (.bool false) ?_
     refine Fs s166 ?_
     refine Fs s166 ?_
     refine Fs s166 ?_
     refine Fs s166 ?_
     refine Fs s166 ?_
     refine Fs s166 ?_
     refine Fs s166 ?_
     refine Fs s166 ?_
     refine Fq (.bool false) (r_pick (b := false) rfl ek ek) ?_
     refine F.es ?_
     have x6 := SG.blk s166 x6 (Option.some_ne_none _)
     have x41 := SG.blk s166 x41 (Option.some_ne_none _)
     have c181 := (SG.belowR c162 s166 (fun kq e => by cases e))
     refine h46 _ _ ?_
     refine wp_cond_false ek ?_
     refine wp_skip ?_
     refine h45 _ _ ?_
     refine W.region_quiet [(0, false), (1, false), (2, false)] kk ?_
     refine Fv (.int .i64 (j : Int)) ?_
     refine Fq (.int .i64 ((j + 1 : Nat) : Int)) (r_add (m := (j : Int)) (n := 1) (z := ((j + 1 : Nat) : Int)) rfl ek ek (by omega) (by omega)) ?_
     refine Fa (.int .i64 ((j + 1 : Nat) : Int)) ?_
     refine F.es ?_
     exact h42 _ _ _ (by omega : ((K) - (j + 1)) < _) ⟨j + 1, Kn.of, rfl, (by omega), (upto_succ (Q := fun z => ¬ (z.pipe = x21.pipe ∧ z.node = x21.node)) hno hx168 (by omega)), x6, x41, c181⟩
    refine Fq (.bool false) (r_lss (m := (j : Int)) (n := (K : Int)) rfl ek ek (decide_eq_false q163)) ?_
    refine F.es ?_
    refine h44 _ _ ?_
    refine wp_cond_false ek ?_
    refine wp_exit ?_
    refine h10 _ _ ?_
    refine W.region_quiet [(0, false), (1, false), (2, false)] kk ?_
    refine Fv (.int .i64 (K : Int)) ?_
    refine Fq (.int .i64 ((K + 1 : Nat) : Int)) (r_add (m := (K : Int)) (n := 1) (z := ((K + 1 : Nat) : Int)) rfl ek ek (by omega) (by omega)) ?_
    refine Fa (.int .i64 ((K + 1 : Nat) : Int)) ?_
    refine F.es ?_
    exact h7 _ _ _ (by omega : (n2 - (K + 1)) < _) ⟨K + 1, Kn.of, rfl, (by omega), (okVTo_next hok ((okV_iff hx22).2 ⟨⟨inB_iff.1 q54, (by have e0 : K = 0 := (by omega); subst e0; exact above_zero)⟩, endAt_of (by omega) hx128 (by omega), placed_no hno (by omega)⟩)), x6, c162⟩
   rw [q54]
   refine Fq (.bool true) (r_not (b := false) rfl ek rfl) ?_
   refine Fv (.bool true) ?_
   refine Fs s51 ?_
   refine Fs s51 ?_
   refine Fs s51 ?_
   refine Fs s51 ?_
   refine Fs s51 ?_
   refine Fs s51 ?_
   refine Fs s51 ?_
   refine Fs s51 ?_
   refine Fs s51 ?_
   refine Fs s51 ?_
   refine Fs s51 ?_
   refine Fs s51 ?_
   refine Fs s51 ?_
   refine Fq (.bool true) (r_pick (b := true) rfl ek ek) ?_
   refine Fv (.bool true) ?_
   refine Fs s51 ?_
   refine Fs s51 ?_
   refine Fq (.bool true) (r_pick (b := true) rfl ek ek) ?_
   refine Fv (.bool true) ?_
   refine Fs s51 ?_
   refine Fs s51 ?_
   refine Fs s51 ?_
   refine Fs s51 ?_
   refine Fs s51 ?_
   refine Fs s51 ?_
   refine Fs s51 ?_
   refine Fs s51 ?_
   refine Fs s51 ?_
   refine Fs s51 ?_
   refine Fs s51 ?_
   refine Fs s51 ?_
   refine Fs s51 ?_
   refine Fs s51 ?_
   refine Fs s51 ?_
   refine Fs s51 ?_
   refine Fs s51 ?_
   refine Fs s51 ?_
   refine Fs s51 ?_
   refine Fs s51 ?_
   refine Fq (.bool true) (r_pick (b := true) rfl ek ek) ?_
   refine F.es ?_
   have c182 := (SG.belowR c48 s51 (fun kq e => by cases e))
   refine h14 _ _ ?_
   refine wp_cond_true ek ?_
   refine wk fun K48 h48 => ?_
   refine W.region_quiet [(0, false)] kk ?_
   refine Fa (.bool false) ?_
   refine F.es ?_
   refine h48 _ _ ?_
   refine wp_ret ?_
   try simp only [Exit.then, Exit.inBlock]
   refine ret1 (v := .bool false) rfl kk ?_
   have e8 : okV ps vs (K) = false := Bool.eq_false_iff.2 (fun h9 => by
     have h8 := (okV_iff hx22).1 h9
     obtain ⟨⟨hA, hB⟩, hC, hD⟩ := h8
     obtain ⟨hC0, p9, hp9, hC1⟩ := endAt_pos hC
     first | omega | (rw [inB_iff.2 hA] at q54; cases q54))
   exact ⟨ret_bool (goodV_bad (k := K) (by omega) e8).symm, c182⟩
  refine Fq (.bool false) (r_lss (m := (K : Int)) (n := (n2 : Int)) rfl ek ek (decide_eq_false q19)) ?_
  refine F.es ?_
  refine h9 _ _ ?_
  refine wp_cond_false ek ?_
  refine wp_exit ?_
  refine h5 _ _ ?_
  refine wk fun K49 h49 => ?_
  refine W.region_quiet [(0, false)] kk ?_
  refine Fa (.bool true) ?_
  refine F.es ?_
  refine h49 _ _ ?_
  refine wp_ret ?_
  try simp only [Exit.then]
  refine ret1 (v := .bool true) rfl kk ?_
  exact ⟨ret_bool (goodV_fin q14 (by omega) (by rw [show vs.length = K by omega]; exact hok)).symm, c18⟩
 rw [q14]
 refine Fq (.bool true) (r_not (b := false) rfl ek rfl) ?_
 refine Fv (.bool true) ?_
 refine Fs s13 ?_
 refine Fs s13 ?_
 refine Fs s13 ?_
 refine Fq (.bool true) (r_pick (b := true) rfl ek ek) ?_
 refine F.es ?_
 have c183 := (SG.belowR c9 s13 (fun kq e => by cases e))
 refine h3 _ _ ?_
 refine wp_cond_true ek ?_
 refine wk fun K50 h50 => ?_
 refine W.region_quiet [(0, false)] kk ?_
 refine Fa (.bool false) ?_
 refine F.es ?_
 refine h50 _ _ ?_
 refine wp_ret ?_
 try simp only [Exit.then]
 refine ret1 (v := .bool false) rfl kk ?_
 exact ⟨ret_bool (goodV_out (.inl q14)).symm, c183⟩
end Go.Proofs.Ytdbgfejeleafgaa
namespace Go.Proofs.Ytdbgfejeleafgaa
open Go.RowKit
set_option linter.unusedVariables false
structure GoodVal (m : Int) (ps : List Pp) (vs : List Vv) : Prop where
  net : GoodNet m ps
  good : goodN m ps = true
  len : vs.length ≤ 10
  uniq : uniqV vs
  place : ∀ v, v ∈ vs → ∃ (k : Nat) (p : Pp), findL ps v.pipe = (k : Int) ∧ k < ps.length ∧ ps[k]? = some p ∧ (p.fr = v.node ∨ p.to = v.node)
  ids : ∀ v, v ∈ vs → 1 ≤ v.id ∧ v.id ≤ 99
  ok : okVTo ps vs vs.length = true
theorem goodV_of {m : Int} {ps : List Pp} {vs : List Vv} (h : goodV m ps vs = true) : GoodVal m ps vs := by
  have h0 := h
  unfold goodV at h
  simp only [Bool.and_eq_true, decide_eq_true_iff] at h
  obtain ⟨h1, h2, h3⟩ := h
  have hat : ∀ i v, vs[i]? = some v → ((1 ≤ v.id ∧ v.id ≤ 99) ∧ above vs i v = true) ∧ endAt ps (findL ps v.pipe) v.node = true ∧ placed (vs.take i) v.pipe v.node = false := fun i v hv =>
    (okV_iff hv).1 (okVTo_at h3 (List.getElem?_eq_some_iff.1 hv).1)
  have hone : ∀ i j (u v : Vv), i < j → vs[i]? = some u → vs[j]? = some v → u.pipe = v.pipe → u.node = v.node → False := fun i j u v hij hu hv e1 e2 => by
    have := (hat j v hv).2.2
    rw [placed_yes hu hij e1 e2] at this; cases this
  refine ⟨good_of h1, h1, h2, fun u v hu hv e1 e2 => ?_, fun v hv => ?_, fun v hv => ?_, h3⟩
  · obtain ⟨i, hi, eu⟩ := List.getElem_of_mem hu
    obtain ⟨j, hj, ev⟩ := List.getElem_of_mem hv
    have hu' : vs[i]? = some u := by rw [List.getElem?_eq_getElem hi, eu]
    have hv' : vs[j]? = some v := by rw [List.getElem?_eq_getElem hj, ev]
    rcases Nat.lt_trichotomy i j with h | h | h
    · exact (hone i j u v h hu' hv' e1 e2).elim
    · subst h; rw [hu'] at hv'; cases hv'; rfl
    · exact (hone j i v u h hv' hu' e1.symm e2.symm).elim
  · obtain ⟨j, hj, ev⟩ := List.getElem_of_mem hv
    obtain ⟨h0, p, hp, he⟩ := endAt_pos (hat j v (by rw [List.getElem?_eq_getElem hj, ev])).2.1
    exact ⟨(findL ps v.pipe).toNat, p, by omega, (List.getElem?_eq_some_iff.1 hp).1, hp, he⟩
  · obtain ⟨j, hj, ev⟩ := List.getElem_of_mem hv
    exact (hat j v (by rw [List.getElem?_eq_getElem hj, ev])).1.1
end Go.Proofs.Ytdbgfejeleafgaa
namespace Go.Proofs.Ytdbgfejeleafgaa
open Go.RowKit
set_option linter.unusedVariables false
set_option linter.unusedSimpArgs false
theorem flatV_take {vs : List Vv} : ∀ k, (valvesV vs).take (k * 4) = valvesV (vs.take k) := by
  intro k
  induction vs generalizing k with
  | nil => simp [valvesV]
  | cons p ps ih =>
    cases k with
    | zero => simp [valvesV]
    | succ k => simp only [valvesV, List.flatMap_cons, List.take_succ_cons] at ih ⊢; rw [show (k + 1) * 4 = k * 4 + 4 by omega]; simp [Vv.vals, ih]
theorem Rd.toV {w : World} {A : Option Addr} {n k : Nat} {vs : List Vv} (h : Rd w 4 A n (valvesV vs)) (hk : k ≤ n) : Rd w 4 A k (valvesV (vs.take k)) := by
  have := h.to hk; rwa [flatV_take] at this
theorem other_zero {p : Pp} {u : Int} (h1 : 1 ≤ p.fr) (h2 : 1 ≤ p.to) : otherOf p u = 0 ↔ ¬ (p.fr = u ∨ p.to = u) := by
  rw [← other_pos h1 h2]
  unfold otherOf
  split
  · omega
  · split <;> omega
set_option maxRecDepth 100000 in
set_option maxHeartbeats 8000000 in
theorem IsValidValves_any (m : Int) (A : Option Addr) (n c : Nat) (ps : List Pp) (A2 : Option Addr) (n2 c2 : Nat) (vs : List Vv) (w : World) (ha : Rd w 4 A n (pipesV ps)) (hb : Rd w 4 A2 n2 (valvesV vs)) (hn : n ≤ 1048576) (hn2 : n2 ≤ 1048576) (hfm2 : Fm A2 n2 c2) :
    Calls Try.prog 13 #[.agg #[.int .i64 m, .slice A n c], .slice A2 n2 c2] w fun e w' => e = .returned (.bool (goodV m ps vs)) ∧ Below w.heap.size w w' := by
 have hl := rd_pipes_len ha
 have hl2 := rd_valves_len hb
 go_enter Try.func13, Try.ntmps13
 refine F.begin 72 [(0, .agg #[.int .i64 m, .slice A n c]), (1, .slice A2 n2 c2)] (fun U0 => ?_)
 refine wk fun K1 h1 => ?_
 refine W.region_plain (row := none) [(0, true), (1, false)] kk ?_
 have s1 := SG.self w none
 refine W.sn (fun b => .pointer (some ⟨b, 0, none⟩)) #[.int .i64 m, .slice A n c] 26 s1 rfl kk rfl (fun _ => by kernel_rfl) (fun b2 w3 hb4 k5 x6 s7 => ?_)
 refine F.nx ?_
 have lo8 : w.heap.size ≤ b2 := Nat.le_trans ((SG.belowR (Below.refl _ _) s1 (fun kq e => by cases e))).size (Nat.le_of_eq hb4)
 refine Fa (.bool false) ?_
 refine F.es ?_
 have c9 := (SG.belowR (Below.refl _ _) s7 (fun kq e => by cases e))
 refine h1 _ _ ?_
 refine wk fun K2 h2 => ?_
 refine wk fun K3 h3 => ?_
 refine W.region_plain (row := none) [(0, false), (1, true), (2, false), (3, false), (4, false), (5, false), (6, false), (7, false)] kk ?_
 have s10 := SG.self w3 none
 refine Fq (.agg #[.int .i64 m, .slice A n c]) (r_load2 rfl ek kk kk (sgS (blk_cell (j := 0) x6 kk) (Option.some_ne_none _)) (sgS (blk_cell (j := 1) x6 kk) (Option.some_ne_none _))) ?_
 refine Fc [.agg #[.int .i64 m, .slice A n c]] (IsValid_any m A n c ps _ (Rd.kept ha (SG.belowR c9 s10 (fun kq e => by cases e))) (by omega)) ?_
 rintro e w12 ⟨rfl, b11⟩
 have s13 := SG.of_below s10 b11
 refine ⟨_, rfl, s13, ?_⟩
 refine F.nx ?_
 rcases Bool.eq_false_or_eq_true (goodN m ps) with q14 | q14
 ·rw [q14]
  refine Fq (.bool false) (r_not (b := true) rfl ek rfl) ?_
  refine Fv (.bool false) ?_
  refine Fv (.slice A2 n2 c2) ?_
  refine Fq (.int .i64 (n2 : Int)) (r_len (A := A2) (n := n2) (c := c2) rfl ek kk) ?_
  by_cases q15 : ((n2 : Int) : Int) > (10 : Int)
  ·refine Fq (.bool true) (r_gtr (m := (n2 : Int)) (n := 10) rfl ek ek (decide_eq_true q15)) ?_
   refine Fq (.bool true) (r_pick (b := false) rfl ek ek) ?_
   refine F.es ?_
   have x6 := SG.blk s13 x6 (Option.some_ne_none _)
   have c16 := (SG.belowR c9 s13 (fun kq e => by cases e))
   refine h3 _ _ ?_
   refine wp_cond_true ek ?_
   refine wk fun K4 h4 => ?_
   refine W.region_quiet [(0, false)] kk ?_
   refine Fa (.bool false) ?_
   refine F.es ?_
   refine h4 _ _ ?_
   refine wp_ret ?_
   try simp only [Exit.then]
   refine ret1 (v := .bool false) rfl kk ?_
   exact ⟨ret_bool (goodV_out (.inr (by omega))).symm, c16⟩
  refine Fq (.bool false) (r_gtr (m := (n2 : Int)) (n := 10) rfl ek ek (decide_eq_false q15)) ?_
  refine Fq (.bool false) (r_pick (b := false) rfl ek ek) ?_
  refine F.es ?_
  have x6 := SG.blk s13 x6 (Option.some_ne_none _)
  have c17 := (SG.belowR c9 s13 (fun kq e => by cases e))
  refine h3 _ _ ?_
  refine wp_cond_false ek ?_
  refine wp_skip ?_
  refine h2 _ _ ?_
  refine wk fun K5 h5 => ?_
  refine wk fun K6 h6 => ?_
  refine W.region_quiet [(0, false), (1, false), (2, false)] kk ?_
  refine Fv (.slice A2 n2 c2) ?_
  refine Fq (.int .i64 (n2 : Int)) (r_len (A := A2) (n := n2) (c := c2) rfl ek kk) ?_
  refine Fv (.int .i64 0) ?_
  refine F.es ?_
  refine h6 _ _ ?_
  refine wp_block ?_
  refine loopK (fun am0 aa0 wl0 => ∃ (K : Nat) , Kn aa0 [(0, .agg #[.int .i64 m, .slice A n c]), (1, .slice A2 n2 c2), (2, .pointer (some ⟨b2, 0, none⟩)), (4, .bool false), (15, .bool false), (16, .slice A2 n2 c2), (17, .int .i64 (n2 : Int)), (18, .int .i64 (K : Int))] 72 ∧ (am0 = n2 - K) ∧ (K ≤ n2) ∧ (okVTo ps vs K = true) ∧ (wl0.heap[b2]? = some (.cells #[.int .i64 m, .slice A n c] 26 (0, 0))) ∧ (Below w.heap.size w wl0)) (n2 - 0) ?_ ?_
  ·exact ⟨0, Kn.of, rfl, (Nat.zero_le _), rfl, x6, c17⟩
  rintro am0 aa0 wl0 K7 h7 ⟨K, ⟨U0, rfl⟩, rfl, hk, hok, x6, c18⟩
  refine wk fun K8 h8 => ?_
  refine W.region_quiet [(0, false)] kk ?_
  by_cases q19 : ((K : Int) : Int) < ((n2 : Int) : Int)
  ·refine Fq (.bool true) (r_lss (m := (K : Int)) (n := (n2 : Int)) rfl ek ek (decide_eq_true q19)) ?_
   refine F.es ?_
   refine h8 _ _ ?_
   refine wk fun K9 h9 => ?_
   refine wp_cond_true ek ?_
   refine wp_skip ?_
   refine h9 _ _ ?_
   refine wk fun K10 h10 => ?_
   refine wp_block ?_
   refine wk fun K11 h11 => ?_
   refine W.region_plain (row := none) [(0, false), (1, false), (2, false), (3, true), (4, false), (5, true)] kk ?_
   have s20 := SG.self wl0 none
   refine Fv (.int .i64 (K : Int)) ?_
   obtain ⟨x21, hx22⟩ := get_of (zs := vs) (k := K) (by have := hl2; omega)
   obtain ⟨b23, o24, hA25, hb26, hc27, hc28, hc29, hc30⟩ := Rd.elValve hb hx22
   refine Fq (.pointer (some ⟨b23, o24 + K * 4, none⟩)) (r_idx (n := n2) (c := c2) (k := K) rfl ek hA25 kk kk (by have := hl2; omega)) ?_
   refine Fq (.agg #[.int .i64 x21.id, .int .i64 x21.pipe, .int .i64 x21.node, .bool x21.shut]) (r_load4 rfl ek kk kk (sgS (later c18 hc27) (by simp)) (sgS (later c18 hc28) (by simp)) (sgS (later c18 hc29) (by simp)) (sgS (later c18 hc30) (by simp))) ?_
   refine W.sn (fun b => .pointer (some ⟨b, 0, none⟩)) #[.int .i64 0, .int .i64 0, .int .i64 0, .bool false] 40 s20 rfl kk rfl (fun _ => by kernel_rfl) (fun b31 w32 hb33 k34 x35 s36 => ?_)
   refine F.nx ?_
   have lo37 : w.heap.size ≤ b31 := Nat.le_trans ((SG.belowR c18 s20 (fun kq e => by cases e))).size (Nat.le_of_eq hb33)
   refine Fa (.int .i64 (K : Int)) ?_
   refine W.ss (v := .agg #[.int .i64 x21.id, .int .i64 x21.pipe, .int .i64 x21.node, .bool x21.shut]) (j := 0) (news := [.int .i64 x21.id, .int .i64 x21.pipe, .int .i64 x21.node, .bool x21.shut]) (cs' := #[.int .i64 x21.id, .int .i64 x21.pipe, .int .i64 x21.node, .bool x21.shut]) s36 rfl kk rfl rfl kk kk x35 kk kk (by simp) kk kk (.inr (Nat.le_trans (s20).size (Nat.le_of_eq hb33))) (fun w39 g40 x41 s42 => ?_)
   refine F.es ?_
   have x6 := SG.blk s42 x6 (Option.some_ne_none _)
   have c43 := (SG.belowR c18 s42 (fun kq e => by cases e))
   refine h11 _ _ ?_
   refine wk fun K12 h12 => ?_
   refine W.region_plain (row := none) [(0, false), (1, false), (2, false), (3, true), (4, false)] kk ?_
   have s44 := SG.self w39 none
   refine Fq (.agg #[.int .i64 m, .slice A n c]) (r_load2 rfl ek kk kk (sgS (blk_cell (j := 0) x6 kk) (Option.some_ne_none _)) (sgS (blk_cell (j := 1) x6 kk) (Option.some_ne_none _))) ?_
   refine Fq (.pointer (some ⟨b31, 1, none⟩)) (r_field (k := 1) rfl ek kk) ?_
   refine Fl (.int .i64 x21.pipe) (sgS (blk_cell (j := 1) x41 kk) (Option.some_ne_none _)) ?_
   refine Fc [.agg #[.int .i64 m, .slice A n c], .int .i64 x21.pipe] (pipeIndex_any m A n c ps x21.pipe _ (Rd.kept ha (SG.belowR c43 s44 (fun kq e => by cases e))) (by omega)) ?_
   rintro e w46 ⟨rfl, b45⟩
   have s47 := SG.of_below s44 b45
   refine ⟨_, rfl, s47, ?_⟩
   refine F.nx ?_
   refine Fa (.int .i64 (findL ps x21.pipe)) ?_
   refine F.es ?_
   have x6 := SG.blk s47 x6 (Option.some_ne_none _)
   have x41 := SG.blk s47 x41 (Option.some_ne_none _)
   have c48 := (SG.belowR c43 s47 (fun kq e => by cases e))
   refine h12 _ _ ?_
   refine wk fun K13 h13 => ?_
   refine wk fun K14 h14 => ?_
   refine W.region_sch (row := none) (Sch.of [(0, false), (1, false), (2, true), (3, false), (4, false), (5, false), (6, false), (7, false), (8, false), (9, false), (10, false), (11, false), (12, false), (13, false), (14, false), (15, false), (16, false), (17, false), (18, false), (19, false), (20, false), (21, false), (22, false), (23, false), (24, false), (25, false), (26, false), (27, false), (28, false), (29, false), (30, false), (31, false), (32, false), (33, false), (34, false), (35, false), (36, true), (37, false), (38, false)]) kk kk (fun _ d _ _ _ h => by cases d <;> exact h) kk (fun w49 e50 s51 => ?_)
   refine Fq (.pointer (some ⟨b31, 0, none⟩)) (r_field0 rfl ek kk) ?_
   refine Fl (.int .i64 x21.id) (sgS (blk_cell (j := 0) x41 kk) (Option.some_ne_none _)) ?_
   refine Fc [.int .i64 x21.id, .int .i64 1, .int .i64 99] (inside_any x21.id 1 99 _) ?_
   rintro e w' ⟨rfl, rfl⟩
   refine ⟨_, rfl, s51, ?_⟩
   refine F.nx ?_
   rcases Bool.eq_false_or_eq_true (inB x21.id 1 99) with q54 | q54
   ·rw [q54]
    refine Fq (.bool false) (r_not (b := true) rfl ek rfl) ?_
    refine Fv (.bool false) ?_
    refine Fv (.int .i64 (K : Int)) ?_
    by_cases q55 : ((K : Int) : Int) > (0 : Int)
    ·obtain ⟨k, rfl⟩ : ∃ k, K = k + 1 := ⟨K - 1, by omega⟩
     refine Fq (.bool true) (r_gtr (m := (((k + 1) : Nat) : Int)) (n := 0) rfl ek ek (decide_eq_true q55)) ?_
     refine Fv (.bool true) ?_
     refine Fv (.slice A2 n2 c2) ?_
     refine Fv (.int .i64 (((k + 1) : Nat) : Int)) ?_
     refine Fq (.int .i64 (k : Int)) (r_sub (m := (((k + 1) : Nat) : Int)) (n := 1) (z := (k : Int)) rfl ek ek (by omega) (by omega)) ?_
     obtain ⟨x56, hx57⟩ := get_of (zs := vs) (k := k) (by have := hl2; omega)
     obtain ⟨b58, o59, hA60, hb61, hc62, hc63, hc64, hc65⟩ := Rd.elValve hb hx57
     refine Fq (.pointer (some ⟨b58, o59 + k * 4, none⟩)) (r_idx (n := n2) (c := c2) (k := k) rfl ek hA60 kk kk (by have := hl2; omega)) ?_
     refine Fq (.pointer (some ⟨b58, o59 + k * 4, none⟩)) (r_field0 rfl ek kk) ?_
     refine Fl (.int .i64 x56.id) (sgS (later c48 hc62) (by simp)) ?_
     refine Fq (.pointer (some ⟨b31, 0, none⟩)) (r_field0 rfl ek kk) ?_
     refine Fl (.int .i64 x21.id) (sgS (blk_cell (j := 0) x41 kk) (Option.some_ne_none _)) ?_
     by_cases q66 : (x56.id : Int) ≥ (x21.id : Int)
     ·refine Fq (.bool true) (r_geq (m := x56.id) (n := x21.id) rfl ek ek (decide_eq_true q66)) ?_
      refine Fq (.bool true) (r_pick (b := true) rfl ek ek) ?_
      refine Fq (.bool true) (r_pick (b := false) rfl ek ek) ?_
      refine Fv (.bool true) ?_
      refine Fs s51 ?_
      refine Fs s51 ?_
      refine Fq (.bool true) (r_pick (b := true) rfl ek ek) ?_
      refine Fv (.bool true) ?_
      refine Fs s51 ?_
      refine Fs s51 ?_
      refine Fs s51 ?_
      refine Fq (.bool true) (r_pick (b := true) rfl ek ek) ?_
      refine Fv (.bool true) ?_
      refine Fs s51 ?_
      refine Fs s51 ?_
      refine Fs s51 ?_
      refine Fs s51 ?_
      refine Fs s51 ?_
      refine Fs s51 ?_
      refine Fs s51 ?_
      refine Fs s51 ?_
      refine Fs s51 ?_
      refine Fq (.bool true) (r_pick (b := true) rfl ek ek) ?_
      refine F.es ?_
      have x6 := SG.blk s51 x6 (Option.some_ne_none _)
      have x41 := SG.blk s51 x41 (Option.some_ne_none _)
      have c67 := (SG.belowR c48 s51 (fun kq e => by cases e))
      refine h14 _ _ ?_
      refine wp_cond_true ek ?_
      refine wk fun K15 h15 => ?_
      refine W.region_quiet [(0, false)] kk ?_
      refine Fa (.bool false) ?_
      refine F.es ?_
      refine h15 _ _ ?_
      refine wp_ret ?_
      try simp only [Exit.then, Exit.inBlock]
      refine ret1 (v := .bool false) rfl kk ?_
      have e8 : okV ps vs (k + 1) = false := Bool.eq_false_iff.2 (fun h9 => by
        have h8 := (okV_iff hx22).1 h9
        obtain ⟨⟨hA, hB⟩, hC, hD⟩ := h8
        obtain ⟨hC0, p9, hp9, hC1⟩ := endAt_pos hC
        have hg9 := (good_of q14).at hp9
        have h7 := (other_zero (u := x21.node) hg9.2.1.1 hg9.2.2.1.1)
        have hB' := of_decide_eq_true ((above_next hx57).symm.trans hB)
        first | omega | (rw [inB_iff.2 hA] at q54; cases q54))
      exact ⟨ret_bool (goodV_bad (k := k + 1) (by omega) e8).symm, c67⟩
     refine Fq (.bool false) (r_geq (m := x56.id) (n := x21.id) rfl ek ek (decide_eq_false q66)) ?_
     refine Fq (.bool false) (r_pick (b := true) rfl ek ek) ?_
     refine Fq (.bool false) (r_pick (b := false) rfl ek ek) ?_
     refine Fv (.bool false) ?_
     refine Fv (.int .i64 (findL ps x21.pipe)) ?_
     by_cases q68 : (findL ps x21.pipe : Int) < (0 : Int)
     ·refine Fq (.bool true) (r_lss (m := findL ps x21.pipe) (n := 0) rfl ek ek (decide_eq_true q68)) ?_
      refine Fq (.bool true) (r_pick (b := false) rfl ek ek) ?_
      refine Fv (.bool true) ?_
      refine Fs s51 ?_
      refine Fs s51 ?_
      refine Fs s51 ?_
      refine Fq (.bool true) (r_pick (b := true) rfl ek ek) ?_
      refine Fv (.bool true) ?_
      refine Fs s51 ?_
      refine Fs s51 ?_
      refine Fs s51 ?_
      refine Fs s51 ?_
      refine Fs s51 ?_
      refine Fs s51 ?_
      refine Fs s51 ?_
      refine Fs s51 ?_
      refine Fs s51 ?_
      refine Fq (.bool true) (r_pick (b := true) rfl ek ek) ?_
      refine F.es ?_
      have x6 := SG.blk s51 x6 (Option.some_ne_none _)
      have x41 := SG.blk s51 x41 (Option.some_ne_none _)
      have c69 := (SG.belowR c48 s51 (fun kq e => by cases e))
      refine h14 _ _ ?_
      refine wp_cond_true ek ?_
      refine wk fun K16 h16 => ?_
      refine W.region_quiet [(0, false)] kk ?_
      refine Fa (.bool false) ?_
      refine F.es ?_
      refine h16 _ _ ?_
      refine wp_ret ?_
      try simp only [Exit.then, Exit.inBlock]
      refine ret1 (v := .bool false) rfl kk ?_
      have e8 : okV ps vs (k + 1) = false := Bool.eq_false_iff.2 (fun h9 => by
        have h8 := (okV_iff hx22).1 h9
        obtain ⟨⟨hA, hB⟩, hC, hD⟩ := h8
        obtain ⟨hC0, p9, hp9, hC1⟩ := endAt_pos hC
        have hg9 := (good_of q14).at hp9
        have h7 := (other_zero (u := x21.node) hg9.2.1.1 hg9.2.2.1.1)
        have hB' := of_decide_eq_true ((above_next hx57).symm.trans hB)
        first | omega | (rw [inB_iff.2 hA] at q54; cases q54))
      exact ⟨ret_bool (goodV_bad (k := k + 1) (by omega) e8).symm, c69⟩
     refine Fq (.bool false) (r_lss (m := findL ps x21.pipe) (n := 0) rfl ek ek (decide_eq_false q68)) ?_
     refine Fq (.bool false) (r_pick (b := false) rfl ek ek) ?_
     refine Fv (.bool false) ?_
     refine Fq (.pointer (some ⟨b31, 2, none⟩)) (r_field (k := 2) rfl ek kk) ?_
     refine Fl (.int .i64 x21.node) (sgS (blk_cell (j := 2) x41 kk) (Option.some_ne_none _)) ?_
     by_cases q70 : (x21.node : Int) < (1 : Int)
     ·refine Fq (.bool true) (r_lss (m := x21.node) (n := 1) rfl ek ek (decide_eq_true q70)) ?_
      refine Fq (.bool true) (r_pick (b := false) rfl ek ek) ?_
      refine Fv (.bool true) ?_
      refine Fs s51 ?_
      refine Fs s51 ?_
      refine Fs s51 ?_
      refine Fs s51 ?_
      refine Fs s51 ?_
      refine Fs s51 ?_
      refine Fs s51 ?_
      refine Fs s51 ?_
      refine Fs s51 ?_
      refine Fq (.bool true) (r_pick (b := true) rfl ek ek) ?_
      refine F.es ?_
      have x6 := SG.blk s51 x6 (Option.some_ne_none _)
      have x41 := SG.blk s51 x41 (Option.some_ne_none _)
      have c71 := (SG.belowR c48 s51 (fun kq e => by cases e))
      refine h14 _ _ ?_
      refine wp_cond_true ek ?_
      refine wk fun K17 h17 => ?_
      refine W.region_quiet [(0, false)] kk ?_
      refine Fa (.bool false) ?_
      refine F.es ?_
      refine h17 _ _ ?_
      refine wp_ret ?_
      try simp only [Exit.then, Exit.inBlock]
      refine ret1 (v := .bool false) rfl kk ?_
      have e8 : okV ps vs (k + 1) = false := Bool.eq_false_iff.2 (fun h9 => by
        have h8 := (okV_iff hx22).1 h9
        obtain ⟨⟨hA, hB⟩, hC, hD⟩ := h8
        obtain ⟨hC0, p9, hp9, hC1⟩ := endAt_pos hC
        have hg9 := (good_of q14).at hp9
        have h7 := (other_zero (u := x21.node) hg9.2.1.1 hg9.2.2.1.1)
        have hB' := of_decide_eq_true ((above_next hx57).symm.trans hB)
        first | omega | (rw [inB_iff.2 hA] at q54; cases q54))
      exact ⟨ret_bool (goodV_bad (k := k + 1) (by omega) e8).symm, c71⟩
     refine Fq (.bool false) (r_lss (m := x21.node) (n := 1) rfl ek ek (decide_eq_false q70)) ?_
     refine Fq (.bool false) (r_pick (b := false) rfl ek ek) ?_
     refine Fv (.bool false) ?_
     refine Fq (.pointer (some ⟨b2, 1, none⟩)) (r_field (k := 1) rfl ek kk) ?_
     refine Fl (.slice A n c) (sgS (blk_cell (j := 1) x6 kk) (Option.some_ne_none _)) ?_
     refine Fv (.int .i64 (findL ps x21.pipe)) ?_
     have hfl := findL_lt ps x21.pipe
     obtain ⟨pz, hpz⟩ := get_of (zs := ps) (k := (findL ps x21.pipe).toNat) (by omega)
     have hgz := (good_of q14).at hpz
     obtain ⟨b72, o73, hA74, hb75, hc76, hc77, hc78, hc79⟩ := Rd.elPipe ha hpz
     refine Fq (.pointer (some ⟨b72, o73 + ((findL ps x21.pipe).toNat) * 4, none⟩)) (r_idx (n := n) (c := c) (k := (findL ps x21.pipe).toNat) rfl ek hA74 (evk (z := findL ps x21.pipe) kk (by omega)) kk (by have := hl; omega)) ?_
     refine Fq (.agg #[.int .i64 pz.id, .int .i64 pz.fr, .int .i64 pz.to, .int .i64 pz.sz]) (r_load4 rfl ek kk kk (sgS (later c48 hc76) (by simp)) (sgS (later c48 hc77) (by simp)) (sgS (later c48 hc78) (by simp)) (sgS (later c48 hc79) (by simp))) ?_
     refine Fq (.pointer (some ⟨b31, 2, none⟩)) (r_field (k := 2) rfl ek kk) ?_
     refine Fl (.int .i64 x21.node) (sgS (blk_cell (j := 2) x41 kk) (Option.some_ne_none _)) ?_
     refine Fc [.agg #[.int .i64 pz.id, .int .i64 pz.fr, .int .i64 pz.to, .int .i64 pz.sz], .int .i64 x21.node] (other_any pz x21.node _) ?_
     rintro e w81 ⟨rfl, b80⟩
     have s82 := SG.of_below s51 b80
     refine ⟨_, rfl, s82, ?_⟩
     refine F.nx ?_
     by_cases q83 : (otherOf pz x21.node : Int) = (0 : Int)
     ·refine Fq (.bool true) (r_eql (m := otherOf pz x21.node) (n := 0) rfl ek ek (decide_eq_true q83)) ?_
      refine Fq (.bool true) (r_pick (b := false) rfl ek ek) ?_
      refine F.es ?_
      have x6 := SG.blk s82 x6 (Option.some_ne_none _)
      have x41 := SG.blk s82 x41 (Option.some_ne_none _)
      have c84 := (SG.belowR c48 s82 (fun kq e => by cases e))
      refine h14 _ _ ?_
      refine wp_cond_true ek ?_
      refine wk fun K18 h18 => ?_
      refine W.region_quiet [(0, false)] kk ?_
      refine Fa (.bool false) ?_
      refine F.es ?_
      refine h18 _ _ ?_
      refine wp_ret ?_
      try simp only [Exit.then, Exit.inBlock]
      refine ret1 (v := .bool false) rfl kk ?_
      have e8 : okV ps vs (k + 1) = false := Bool.eq_false_iff.2 (fun h9 => by
        have h8 := (okV_iff hx22).1 h9
        obtain ⟨⟨hA, hB⟩, hC, hD⟩ := h8
        obtain ⟨hC0, p9, hp9, hC1⟩ := endAt_pos hC
        have hg9 := (good_of q14).at hp9
        have h7 := (other_zero (u := x21.node) hg9.2.1.1 hg9.2.2.1.1)
        have hB' := of_decide_eq_true ((above_next hx57).symm.trans hB)
        obtain rfl := Option.some.inj (hp9.symm.trans hpz)
        first | omega | (rw [inB_iff.2 hA] at q54; cases q54))
      exact ⟨ret_bool (goodV_bad (k := k + 1) (by omega) e8).symm, c84⟩
     refine Fq (.bool false) (r_eql (m := otherOf pz x21.node) (n := 0) rfl ek ek (decide_eq_false q83)) ?_
     refine Fq (.bool false) (r_pick (b := false) rfl ek ek) ?_
     refine F.es ?_
     have x6 := SG.blk s82 x6 (Option.some_ne_none _)
     have x41 := SG.blk s82 x41 (Option.some_ne_none _)
     have c85 := (SG.belowR c48 s82 (fun kq e => by cases e))
     refine h14 _ _ ?_
     refine wp_cond_false ek ?_
     refine wp_skip ?_
     refine h13 _ _ ?_
     refine wk fun K19 h19 => ?_
     refine W.region_plain (row := none) [(0, false), (1, false), (2, false), (3, false), (4, true)] kk ?_
     have s86 := SG.self w81 none
     refine Fv (.slice A2 n2 c2) ?_
     refine Fv (.int .i64 (((k + 1) : Nat) : Int)) ?_
     refine Fq (.slice A2 (k + 1) c2) (r_sliceTo (A := A2) (n := n2) (c := c2) (k := (k + 1)) (size := 4) rfl ek ek kk (by have := (hfm2).le; omega)) ?_
     refine Fq (.func (.func 83) #[] #[.pointer (some ⟨b31, 0, none⟩)]) (r_makeFunc (vs := [.pointer (some ⟨b31, 0, none⟩)]) rfl kk) ?_
     refine Fc [.slice A2 (k + 1) c2, .func (.func 83) #[] #[.pointer (some ⟨b31, 0, none⟩)]] (anyV_any A2 (k + 1) c2 (vs.take (k + 1)) 83 #[.pointer (some ⟨b31, 0, none⟩)] (fun v => decide (v.pipe = x21.pipe) && decide (v.node = x21.node)) _ (Rd.toV (Rd.kept hb (SG.belowR c85 s86 (fun kq e => by cases e))) (by omega)) (by omega) kk (fun W v hW => validF_any v x21 b31 W ((hW.block _ (blk_lt x41)).trans x41))) ?_
     rintro e w88 ⟨rfl, b87⟩
     have s89 := SG.of_below s86 b87
     refine ⟨_, rfl, s89, ?_⟩
     refine F.nx ?_
     rcases Bool.eq_false_or_eq_true ((vs.take (k + 1)).any (fun v => decide (v.pipe = x21.pipe) && decide (v.node = x21.node))) with q90 | q90
     ·rw [q90]
      refine F.es ?_
      have x6 := SG.blk s89 x6 (Option.some_ne_none _)
      have x41 := SG.blk s89 x41 (Option.some_ne_none _)
      have c91 := (SG.belowR c85 s89 (fun kq e => by cases e))
      refine h19 _ _ ?_
      refine wp_cond_true ek ?_
      refine wk fun K20 h20 => ?_
      refine W.region_quiet [(0, false)] kk ?_
      refine Fa (.bool false) ?_
      refine F.es ?_
      refine h20 _ _ ?_
      refine wp_ret ?_
      try simp only [Exit.then, Exit.inBlock]
      refine ret1 (v := .bool false) rfl kk ?_
      have e8 : okV ps vs (k + 1) = false := Bool.eq_false_iff.2 (fun h9 => by
        have h8 := (okV_iff hx22).1 h9
        obtain ⟨⟨hA, hB⟩, hC, hD⟩ := h8
        obtain ⟨hC0, p9, hp9, hC1⟩ := endAt_pos hC
        have hg9 := (good_of q14).at hp9
        have h7 := (other_zero (u := x21.node) hg9.2.1.1 hg9.2.2.1.1)
        have hB' := of_decide_eq_true ((above_next hx57).symm.trans hB)
        obtain rfl := Option.some.inj (hp9.symm.trans hpz)
        exact absurd (show placed (vs.take (k + 1)) x21.pipe x21.node = true from q90) (by rw [hD]; simp))
      exact ⟨ret_bool (goodV_bad (k := k + 1) (by omega) e8).symm, c91⟩
     rw [q90]
     refine F.es ?_
     have x6 := SG.blk s89 x6 (Option.some_ne_none _)
     have x41 := SG.blk s89 x41 (Option.some_ne_none _)
     have c92 := (SG.belowR c85 s89 (fun kq e => by cases e))
     refine h19 _ _ ?_
     refine wp_cond_false ek ?_
     refine wp_skip ?_
     refine h10 _ _ ?_
     refine W.region_quiet [(0, false), (1, false)] kk ?_
     refine Fq (.int .i64 (((k + 1) + 1 : Nat) : Int)) (r_add (m := (((k + 1) : Nat) : Int)) (n := 1) (z := (((k + 1) + 1 : Nat) : Int)) rfl ek ek (by omega) (by omega)) ?_
     refine Fv (.int .i64 (((k + 1) + 1 : Nat) : Int)) ?_
     refine F.es ?_
     exact h7 _ _ _ (by omega : (n2 - (k + 1 + 1)) < _) ⟨k + 1 + 1, Kn.of, rfl, (by omega), (okVTo_next hok ((okV_iff hx22).2 ⟨⟨inB_iff.1 q54, (by rw [above_next hx57]; exact decide_eq_true (by omega))⟩, endAt_of (by omega) hpz (by have h9 := (other_zero (u := x21.node) hgz.2.1.1 hgz.2.2.1.1); omega), q90⟩)), x6, c92⟩
    refine Fq (.bool false) (r_gtr (m := (K : Int)) (n := 0) rfl ek ek (decide_eq_false q55)) ?_
    refine Fv (.bool false) ?_
    refine Fs s51 ?_
    refine Fs s51 ?_
    refine Fs s51 ?_
    refine Fs s51 ?_
    refine Fs s51 ?_
    refine Fs s51 ?_
    refine Fs s51 ?_
    refine Fs s51 ?_
    refine Fs s51 ?_
    refine Fq (.bool false) (r_pick (b := false) rfl ek ek) ?_
    refine Fq (.bool false) (r_pick (b := false) rfl ek ek) ?_
    refine Fv (.bool false) ?_
    refine Fv (.int .i64 (findL ps x21.pipe)) ?_
    by_cases q93 : (findL ps x21.pipe : Int) < (0 : Int)
    ·refine Fq (.bool true) (r_lss (m := findL ps x21.pipe) (n := 0) rfl ek ek (decide_eq_true q93)) ?_
     refine Fq (.bool true) (r_pick (b := false) rfl ek ek) ?_
     refine Fv (.bool true) ?_
     refine Fs s51 ?_
     refine Fs s51 ?_
     refine Fs s51 ?_
     refine Fq (.bool true) (r_pick (b := true) rfl ek ek) ?_
     refine Fv (.bool true) ?_
     refine Fs s51 ?_
     refine Fs s51 ?_
     refine Fs s51 ?_
     refine Fs s51 ?_
     refine Fs s51 ?_
     refine Fs s51 ?_
     refine Fs s51 ?_
     refine Fs s51 ?_
     refine Fs s51 ?_
     refine Fq (.bool true) (r_pick (b := true) rfl ek ek) ?_
     refine F.es ?_
     have x6 := SG.blk s51 x6 (Option.some_ne_none _)
     have x41 := SG.blk s51 x41 (Option.some_ne_none _)
     have c94 := (SG.belowR c48 s51 (fun kq e => by cases e))
     refine h14 _ _ ?_
     refine wp_cond_true ek ?_
     refine wk fun K21 h21 => ?_
     refine W.region_quiet [(0, false)] kk ?_
     refine Fa (.bool false) ?_
     refine F.es ?_
     refine h21 _ _ ?_
     refine wp_ret ?_
     try simp only [Exit.then, Exit.inBlock]
     refine ret1 (v := .bool false) rfl kk ?_
     have e8 : okV ps vs (K) = false := Bool.eq_false_iff.2 (fun h9 => by
       have h8 := (okV_iff hx22).1 h9
       obtain ⟨⟨hA, hB⟩, hC, hD⟩ := h8
       obtain ⟨hC0, p9, hp9, hC1⟩ := endAt_pos hC
       have hg9 := (good_of q14).at hp9
       have h7 := (other_zero (u := x21.node) hg9.2.1.1 hg9.2.2.1.1)
       first | omega | (rw [inB_iff.2 hA] at q54; cases q54))
     exact ⟨ret_bool (goodV_bad (k := K) (by omega) e8).symm, c94⟩
    refine Fq (.bool false) (r_lss (m := findL ps x21.pipe) (n := 0) rfl ek ek (decide_eq_false q93)) ?_
    refine Fq (.bool false) (r_pick (b := false) rfl ek ek) ?_
    refine Fv (.bool false) ?_
    refine Fq (.pointer (some ⟨b31, 2, none⟩)) (r_field (k := 2) rfl ek kk) ?_
    refine Fl (.int .i64 x21.node) (sgS (blk_cell (j := 2) x41 kk) (Option.some_ne_none _)) ?_
    by_cases q95 : (x21.node : Int) < (1 : Int)
    ·refine Fq (.bool true) (r_lss (m := x21.node) (n := 1) rfl ek ek (decide_eq_true q95)) ?_
     refine Fq (.bool true) (r_pick (b := false) rfl ek ek) ?_
     refine Fv (.bool true) ?_
     refine Fs s51 ?_
     refine Fs s51 ?_
     refine Fs s51 ?_
     refine Fs s51 ?_
     refine Fs s51 ?_
     refine Fs s51 ?_
     refine Fs s51 ?_
     refine Fs s51 ?_
     refine Fs s51 ?_
     refine Fq (.bool true) (r_pick (b := true) rfl ek ek) ?_
     refine F.es ?_
     have x6 := SG.blk s51 x6 (Option.some_ne_none _)
     have x41 := SG.blk s51 x41 (Option.some_ne_none _)
     have c96 := (SG.belowR c48 s51 (fun kq e => by cases e))
     refine h14 _ _ ?_
     refine wp_cond_true ek ?_
     refine wk fun K22 h22 => ?_
     refine W.region_quiet [(0, false)] kk ?_
     refine Fa (.bool false) ?_
     refine F.es ?_
     refine h22 _ _ ?_
     refine wp_ret ?_
     try simp only [Exit.then, Exit.inBlock]
     refine ret1 (v := .bool false) rfl kk ?_
     have e8 : okV ps vs (K) = false := Bool.eq_false_iff.2 (fun h9 => by
       have h8 := (okV_iff hx22).1 h9
       obtain ⟨⟨hA, hB⟩, hC, hD⟩ := h8
       obtain ⟨hC0, p9, hp9, hC1⟩ := endAt_pos hC
       have hg9 := (good_of q14).at hp9
       have h7 := (other_zero (u := x21.node) hg9.2.1.1 hg9.2.2.1.1)
       first | omega | (rw [inB_iff.2 hA] at q54; cases q54))
     exact ⟨ret_bool (goodV_bad (k := K) (by omega) e8).symm, c96⟩
    refine Fq (.bool false) (r_lss (m := x21.node) (n := 1) rfl ek ek (decide_eq_false q95)) ?_
    refine Fq (.bool false) (r_pick (b := false) rfl ek ek) ?_
    refine Fv (.bool false) ?_
    refine Fq (.pointer (some ⟨b2, 1, none⟩)) (r_field (k := 1) rfl ek kk) ?_
    refine Fl (.slice A n c) (sgS (blk_cell (j := 1) x6 kk) (Option.some_ne_none _)) ?_
    refine Fv (.int .i64 (findL ps x21.pipe)) ?_
    have hfl := findL_lt ps x21.pipe
    obtain ⟨pz, hpz⟩ := get_of (zs := ps) (k := (findL ps x21.pipe).toNat) (by omega)
    have hgz := (good_of q14).at hpz
    obtain ⟨b97, o98, hA99, hb100, hc101, hc102, hc103, hc104⟩ := Rd.elPipe ha hpz
    refine Fq (.pointer (some ⟨b97, o98 + ((findL ps x21.pipe).toNat) * 4, none⟩)) (r_idx (n := n) (c := c) (k := (findL ps x21.pipe).toNat) rfl ek hA99 (evk (z := findL ps x21.pipe) kk (by omega)) kk (by have := hl; omega)) ?_
    refine Fq (.agg #[.int .i64 pz.id, .int .i64 pz.fr, .int .i64 pz.to, .int .i64 pz.sz]) (r_load4 rfl ek kk kk (sgS (later c48 hc101) (by simp)) (sgS (later c48 hc102) (by simp)) (sgS (later c48 hc103) (by simp)) (sgS (later c48 hc104) (by simp))) ?_
    refine Fq (.pointer (some ⟨b31, 2, none⟩)) (r_field (k := 2) rfl ek kk) ?_
    refine Fl (.int .i64 x21.node) (sgS (blk_cell (j := 2) x41 kk) (Option.some_ne_none _)) ?_
    refine Fc [.agg #[.int .i64 pz.id, .int .i64 pz.fr, .int .i64 pz.to, .int .i64 pz.sz], .int .i64 x21.node] (other_any pz x21.node _) ?_
    rintro e w106 ⟨rfl, b105⟩
    have s107 := SG.of_below s51 b105
    refine ⟨_, rfl, s107, ?_⟩
    refine F.nx ?_
    by_cases q108 : (otherOf pz x21.node : Int) = (0 : Int)
    ·refine Fq (.bool true) (r_eql (m := otherOf pz x21.node) (n := 0) rfl ek ek (decide_eq_true q108)) ?_
     refine Fq (.bool true) (r_pick (b := false) rfl ek ek) ?_
     refine F.es ?_
     have x6 := SG.blk s107 x6 (Option.some_ne_none _)
     have x41 := SG.blk s107 x41 (Option.some_ne_none _)
     have c109 := (SG.belowR c48 s107 (fun kq e => by cases e))
     refine h14 _ _ ?_
     refine wp_cond_true ek ?_
     refine wk fun K23 h23 => ?_
     refine W.region_quiet [(0, false)] kk ?_
     refine Fa (.bool false) ?_
     refine F.es ?_
     refine h23 _ _ ?_
     refine wp_ret ?_
     try simp only [Exit.then, Exit.inBlock]
     refine ret1 (v := .bool false) rfl kk ?_
     have e8 : okV ps vs (K) = false := Bool.eq_false_iff.2 (fun h9 => by
       have h8 := (okV_iff hx22).1 h9
       obtain ⟨⟨hA, hB⟩, hC, hD⟩ := h8
       obtain ⟨hC0, p9, hp9, hC1⟩ := endAt_pos hC
       have hg9 := (good_of q14).at hp9
       have h7 := (other_zero (u := x21.node) hg9.2.1.1 hg9.2.2.1.1)
       obtain rfl := Option.some.inj (hp9.symm.trans hpz)
       first | omega | (rw [inB_iff.2 hA] at q54; cases q54))
     exact ⟨ret_bool (goodV_bad (k := K) (by omega) e8).symm, c109⟩
    refine Fq (.bool false) (r_eql (m := otherOf pz x21.node) (n := 0) rfl ek ek (decide_eq_false q108)) ?_
    refine Fq (.bool false) (r_pick (b := false) rfl ek ek) ?_
    refine F.es ?_
    have x6 := SG.blk s107 x6 (Option.some_ne_none _)
    have x41 := SG.blk s107 x41 (Option.some_ne_none _)
    have c110 := (SG.belowR c48 s107 (fun kq e => by cases e))
    refine h14 _ _ ?_
    refine wp_cond_false ek ?_
    refine wp_skip ?_
    refine h13 _ _ ?_
    refine wk fun K24 h24 => ?_
    refine W.region_plain (row := none) [(0, false), (1, false), (2, false), (3, false), (4, true)] kk ?_
    have s111 := SG.self w106 none
    refine Fv (.slice A2 n2 c2) ?_
    refine Fv (.int .i64 (K : Int)) ?_
    refine Fq (.slice A2 K c2) (r_sliceTo (A := A2) (n := n2) (c := c2) (k := K) (size := 4) rfl ek ek kk (by have := (hfm2).le; omega)) ?_
    refine Fq (.func (.func 83) #[] #[.pointer (some ⟨b31, 0, none⟩)]) (r_makeFunc (vs := [.pointer (some ⟨b31, 0, none⟩)]) rfl kk) ?_
    refine Fc [.slice A2 K c2, .func (.func 83) #[] #[.pointer (some ⟨b31, 0, none⟩)]] (anyV_any A2 K c2 (vs.take K) 83 #[.pointer (some ⟨b31, 0, none⟩)] (fun v => decide (v.pipe = x21.pipe) && decide (v.node = x21.node)) _ (Rd.toV (Rd.kept hb (SG.belowR c110 s111 (fun kq e => by cases e))) (by omega)) (by omega) kk (fun W v hW => validF_any v x21 b31 W ((hW.block _ (blk_lt x41)).trans x41))) ?_
    rintro e w113 ⟨rfl, b112⟩
    have s114 := SG.of_below s111 b112
    refine ⟨_, rfl, s114, ?_⟩
    refine F.nx ?_
    rcases Bool.eq_false_or_eq_true ((vs.take K).any (fun v => decide (v.pipe = x21.pipe) && decide (v.node = x21.node))) with q115 | q115
    ·rw [q115]
     refine F.es ?_
     have x6 := SG.blk s114 x6 (Option.some_ne_none _)
     have c116 := (SG.belowR c110 s114 (fun kq e => by cases e))
     refine h24 _ _ ?_
     refine wp_cond_true ek ?_
     refine wk fun K25 h25 => ?_
     refine W.region_quiet [(0, false)] kk ?_
     refine Fa (.bool false) ?_
     refine F.es ?_
     refine h25 _ _ ?_
     refine wp_ret ?_
     try simp only [Exit.then, Exit.inBlock]
     refine ret1 (v := .bool false) rfl kk ?_
     have e8 : okV ps vs (K) = false := Bool.eq_false_iff.2 (fun h9 => by
       have h8 := (okV_iff hx22).1 h9
       obtain ⟨⟨hA, hB⟩, hC, hD⟩ := h8
       obtain ⟨hC0, p9, hp9, hC1⟩ := endAt_pos hC
       have hg9 := (good_of q14).at hp9
       have h7 := (other_zero (u := x21.node) hg9.2.1.1 hg9.2.2.1.1)
       obtain rfl := Option.some.inj (hp9.symm.trans hpz)
       exact absurd (show placed (vs.take (K)) x21.pipe x21.node = true from q115) (by rw [hD]; simp))
     exact ⟨ret_bool (goodV_bad (k := K) (by omega) e8).symm, c116⟩
    rw [q115]
    refine F.es ?_
    have x6 := SG.blk s114 x6 (Option.some_ne_none _)
    have c117 := (SG.belowR c110 s114 (fun kq e => by cases e))
    refine h24 _ _ ?_
    refine wp_cond_false ek ?_
    refine wp_skip ?_
    refine h10 _ _ ?_
    refine W.region_quiet [(0, false), (1, false)] kk ?_
    refine Fq (.int .i64 ((K + 1 : Nat) : Int)) (r_add (m := (K : Int)) (n := 1) (z := ((K + 1 : Nat) : Int)) rfl ek ek (by omega) (by omega)) ?_
    refine Fv (.int .i64 ((K + 1 : Nat) : Int)) ?_
    refine F.es ?_
    exact h7 _ _ _ (by omega : (n2 - (K + 1)) < _) ⟨K + 1, Kn.of, rfl, (by omega), (okVTo_next hok ((okV_iff hx22).2 ⟨⟨inB_iff.1 q54, (by have e0 : K = 0 := (by omega); subst e0; exact above_zero)⟩, endAt_of (by omega) hpz (by have h9 := (other_zero (u := x21.node) hgz.2.1.1 hgz.2.2.1.1); omega), q115⟩)), x6, c117⟩
   rw [q54]
   refine Fq (.bool true) (r_not (b := false) rfl ek rfl) ?_
   refine Fv (.bool true) ?_
   refine Fs s51 ?_
   refine Fs s51 ?_
   refine Fs s51 ?_
   refine Fs s51 ?_
   refine Fs s51 ?_
   refine Fs s51 ?_
   refine Fs s51 ?_
   refine Fs s51 ?_
   refine Fs s51 ?_
   refine Fs s51 ?_
   refine Fs s51 ?_
   refine Fs s51 ?_
   refine Fs s51 ?_
   refine Fq (.bool true) (r_pick (b := true) rfl ek ek) ?_
   refine Fv (.bool true) ?_
   refine Fs s51 ?_
   refine Fs s51 ?_
   refine Fq (.bool true) (r_pick (b := true) rfl ek ek) ?_
   refine Fv (.bool true) ?_
   refine Fs s51 ?_
   refine Fs s51 ?_
   refine Fs s51 ?_
   refine Fq (.bool true) (r_pick (b := true) rfl ek ek) ?_
   refine Fv (.bool true) ?_
   refine Fs s51 ?_
   refine Fs s51 ?_
   refine Fs s51 ?_
   refine Fs s51 ?_
   refine Fs s51 ?_
   refine Fs s51 ?_
   refine Fs s51 ?_
   refine Fs s51 ?_
   refine Fs s51 ?_
   refine Fq (.bool true) (r_pick (b := true) rfl ek ek) ?_
   refine F.es ?_
   have c118 := (SG.belowR c48 s51 (fun kq e => by cases e))
   refine h14 _ _ ?_
   refine wp_cond_true ek ?_
   refine wk fun K26 h26 => ?_
   refine W.region_quiet [(0, false)] kk ?_
   refine Fa (.bool false) ?_
   refine F.es ?_
   refine h26 _ _ ?_
   refine wp_ret ?_
   try simp only [Exit.then, Exit.inBlock]
   refine ret1 (v := .bool false) rfl kk ?_
   have e8 : okV ps vs (K) = false := Bool.eq_false_iff.2 (fun h9 => by
     have h8 := (okV_iff hx22).1 h9
     obtain ⟨⟨hA, hB⟩, hC, hD⟩ := h8
     obtain ⟨hC0, p9, hp9, hC1⟩ := endAt_pos hC
     have hg9 := (good_of q14).at hp9
     have h7 := (other_zero (u := x21.node) hg9.2.1.1 hg9.2.2.1.1)
     first | omega | (rw [inB_iff.2 hA] at q54; cases q54))
   exact ⟨ret_bool (goodV_bad (k := K) (by omega) e8).symm, c118⟩
  refine Fq (.bool false) (r_lss (m := (K : Int)) (n := (n2 : Int)) rfl ek ek (decide_eq_false q19)) ?_
  refine F.es ?_
  refine h8 _ _ ?_
  refine wk fun K27 h27 => ?_
  refine wp_cond_false ek ?_
  refine wp_exit ?_
  refine h5 _ _ ?_
  refine wk fun K28 h28 => ?_
  refine W.region_quiet [(0, false)] kk ?_
  refine Fa (.bool true) ?_
  refine F.es ?_
  refine h28 _ _ ?_
  refine wp_ret ?_
  try simp only [Exit.then]
  refine ret1 (v := .bool true) rfl kk ?_
  exact ⟨ret_bool (goodV_fin q14 (by omega) (by rw [show vs.length = K by omega]; exact hok)).symm, c18⟩
 rw [q14]
 refine Fq (.bool true) (r_not (b := false) rfl ek rfl) ?_
 refine Fv (.bool true) ?_
 refine Fs s13 ?_
 refine Fs s13 ?_
 refine Fs s13 ?_
 refine Fq (.bool true) (r_pick (b := true) rfl ek ek) ?_
 refine F.es ?_
 have c119 := (SG.belowR c9 s13 (fun kq e => by cases e))
 refine h3 _ _ ?_
 refine wp_cond_true ek ?_
 refine wk fun K29 h29 => ?_
 refine W.region_quiet [(0, false)] kk ?_
 refine Fa (.bool false) ?_
 refine F.es ?_
 refine h29 _ _ ?_
 refine wp_ret ?_
 try simp only [Exit.then]
 refine ret1 (v := .bool false) rfl kk ?_
 exact ⟨ret_bool (goodV_out (.inl q14)).symm, c119⟩
end Go.Proofs.Ytdbgfejeleafgaa
namespace Go.Proofs.Ytdbgfejeleafgaa
open Go.RowKit
set_option linter.unusedVariables false
theorem nbr_nil {n c : Nat} {u : Value} : NbR (.slice none n c) u := fun j e _ => by simp [Value.ownBlock] at e
theorem fin_ints2 {w w' : World} {e : TypeId} {A A' : Option Addr} {n c n' c' : Nat} {zs vs zs' vs' : List Int} {b vb : Bool} (how : w'.ownsRow w.heap.size e 1 (.slice A n c) n (intsV zs)) (how' : w'.ownsRow w.heap.size e 1 (.slice A' n' c') n' (intsV zs')) (hz : zs = vs) (hz' : zs' = vs') (hb : b = vb) (nr : NbR (.slice A n c) (.slice A' n' c')) (bel : Below w.heap.size w w') :
    ∃ A0 d0 A1 d1, Ending.returned (.tuple #[.slice A n c, .slice A' n' c', .bool b]) = .returned (.tuple #[.slice A0 vs.length d0, .slice A1 vs'.length d1, .bool vb]) ∧ w'.ownsRow w.heap.size e 1 (.slice A0 vs.length d0) vs.length (intsV vs) ∧ w'.ownsRow w.heap.size e 1 (.slice A1 vs'.length d1) vs'.length (intsV vs') ∧ NbR (.slice A0 vs.length d0) (.slice A1 vs'.length d1) ∧ Below w.heap.size w w' := by
  subst hz hz' hb
  have hl := own_len how
  have hl' := own_len how'
  rw [ints_len] at hl hl'
  subst hl hl'
  exact ⟨_, _, _, _, rfl, how, how', nr, bel⟩
theorem fin_rd2 {w w' : World} {A A' : Option Addr} {n c n' c' : Nat} {zs vs zs' vs' : List Int} {b vb : Bool} (how : Rd w' 1 A n (intsV zs)) (how' : Rd w' 1 A' n' (intsV zs')) (hz : zs = vs) (hz' : zs' = vs') (hb : b = vb) (bel : Below w.heap.size w w') :
    ∃ A0 d0 A1 d1, Ending.returned (.tuple #[.slice A n c, .slice A' n' c', .bool b]) = .returned (.tuple #[.slice A0 vs.length d0, .slice A1 vs'.length d1, .bool vb]) ∧ Rd w' 1 A0 vs.length (intsV vs) ∧ Rd w' 1 A1 vs'.length (intsV vs') ∧ Below w.heap.size w w' := by
  subst hz hz' hb
  have hl := rd_ints_len how
  have hl' := rd_ints_len how'
  subst hl hl'
  exact ⟨_, _, _, _, rfl, how, how', bel⟩
theorem fin_rd {w w' : World} {A : Option Addr} {n c : Nat} {zs vs : List Int} {b vb : Bool} (how : Rd w' 1 A n (intsV zs)) (hz : zs = vs) (hb : b = vb) (bel : Below w.heap.size w w') :
    ∃ A' d, Ending.returned (.tuple #[.slice A n c, .bool b]) = .returned (.tuple #[.slice A' vs.length d, .bool vb]) ∧ Rd w' 1 A' vs.length (intsV vs) ∧ Below w.heap.size w w' := by
  subst hz hb
  have hl := rd_ints_len how
  subst hl
  exact ⟨_, _, rfl, how, bel⟩
theorem wet_eqI {E : Int → Int → Prop} {a b : Int} {k : Nat} {x : Bool} (hx : (wetL E a)[k]? = some x) (e : b = (k : Int)) : x = rb E a b := by rw [e]; exact wet_eq hx
end Go.Proofs.Ytdbgfejeleafgaa
