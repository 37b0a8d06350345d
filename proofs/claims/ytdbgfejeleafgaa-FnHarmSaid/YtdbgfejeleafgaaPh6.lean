/- What the texts behind it build on; conditions: none. -/
import Derived.Test.YtdbgfejeleafgaaPh5
namespace Go.Proofs.Ytdbgfejeleafgaa
open Go.RowKit
set_option linter.unusedVariables false
set_option linter.unusedSimpArgs false
set_option maxRecDepth 100000 in
set_option maxHeartbeats 8000000 in
theorem l4Good_any (m : Int) (A : Option Addr) (n c : Nat) (ps : List Pp) (A2 : Option Addr) (n2 c2 : Nat) (vs : List Vv) (w : World) (ha : Rd w 4 A n (pipesV ps)) (hb : Rd w 4 A2 n2 (valvesV vs)) (hn : n ≤ 1048576) (hn2 : n2 ≤ 1048576) :
    Calls Try.prog 76 #[.agg #[.int .i64 m, .slice A n c], .slice A2 n2 c2] w fun e w' => e = .returned (.bool (goodV m ps vs)) ∧ Below w.heap.size w w' := by
 have hl := rd_pipes_len ha
 have hl2 := rd_valves_len hb
 go_enter Try.func76, Try.ntmps76
 refine F.begin 99 [(0, .agg #[.int .i64 m, .slice A n c]), (1, .slice A2 n2 c2)] (fun U0 => ?_)
 refine wk fun K1 h1 => ?_
 refine W.region_plain (row := none) [(0, true), (1, false)] kk ?_
 have s1 := SG.self w none
 refine W.sn (fun b => .pointer (some ⟨b, 0, none⟩)) #[.int .i64 m, .slice A n c] 26 s1 rfl kk rfl (fun _ => by kernel_rfl) (fun b2 w3 hb4 k5 x6 s7 => ?_)
 apply F.nx
 have lo8 : w.heap.size ≤ b2 := Nl ((Sb (Below.refl _ _) s1 nkk)).size (Nat.le_of_eq hb4)
 refine Fa (.bool false) ?_
 apply F.es
 have c9 := (Sb (Below.refl _ _) s7 nkk)
 apply h1
 refine wk fun K2 h2 => ?_
 refine wk fun K3 h3 => ?_
 refine W.region_plain (row := none) [(0, false), (1, true), (2, false), (3, false), (4, false), (5, false), (6, false), (7, false)] kk ?_
 have s10 := SG.self w3 none
 refine Fq (.agg #[.int .i64 m, .slice A n c]) (r_load2 rfl ek kk kk (sgS (blk_cell (j := 0) x6 kk) onn) (sgS (blk_cell (j := 1) x6 kk) onn)) ?_
 refine Fc [.agg #[.int .i64 m, .slice A n c]] (l2Good_any m A n c ps _ (Rk ha (Sb c9 s10 nkk)) (by omega)) ?_
 rintro e w12 ⟨rfl, b11⟩
 have s13 := SG.of_below s10 b11
 refine ⟨_, rfl, s13, ?_⟩
 apply F.nx
 rcases Bool.eq_false_or_eq_true (goodN m ps) with q14 | q14
 ·rw [q14]
  refine Fq (.bool false) (r_not (b := true) rfl ek rfl) ?_
  refine Fv (.bool false) ?_
  refine Fv (.slice A2 n2 c2) ?_
  refine Fq (.int .i64 (n2 : Int)) (r_len (A := A2) (n := n2) (c := c2) rfl ek kk) ?_
  by_cases q15 : ((n2 : Int) : Int) > (10 : Int)
  ·refine Fq (.bool true) (r_gtr (m := (n2 : Int)) (n := 10) rfl ek ek (dt q15)) ?_
   refine Fq (.bool true) (r_pick (b := false) rfl ek ek) ?_
   apply F.es
   have x6 := Sk s13 x6 onn
   have c16 := (Sb c9 s13 nkk)
   apply h3
   refine wp_cond_true ek ?_
   refine wk fun K4 h4 => ?_
   refine Rq 1 ?_
   refine Fa (.bool false) ?_
   apply F.es
   apply h4
   refine wp_ret ?_
   try simp only [Exit.then]
   refine ret1 (v := .bool false) rfl kk ?_
   exact ⟨ret_bool (goodV_out (.inr (by omega))).symm, c16⟩
  refine Fq (.bool false) (r_gtr (m := (n2 : Int)) (n := 10) rfl ek ek (df q15)) ?_
  refine Fq (.bool false) (r_pick (b := false) rfl ek ek) ?_
  apply F.es
  have x6 := Sk s13 x6 onn
  have c17 := (Sb c9 s13 nkk)
  apply h3
  refine wp_cond_false ek ?_
  apply wp_skip
  apply h2
  refine wk fun K5 h5 => ?_
  refine wk fun K6 h6 => ?_
  refine Rq 1 ?_
  refine Fa (.int .i64 0) ?_
  apply F.es
  apply h6
  refine wp_block ?_
  refine loopK (fun am0 aa0 wl0 => ∃ (K : Nat) , Kn aa0 [(0, .agg #[.int .i64 m, .slice A n c]), (1, .slice A2 n2 c2), (2, .pointer (some ⟨b2, 0, none⟩)), (4, .bool false), (5, .int .i64 (K : Int)), (16, .bool false)] 99 ∧ (am0 = n2 - K) ∧ (K ≤ n2) ∧ (okVTo ps vs K = true) ∧ (wl0.heap[b2]? = some (.cells #[.int .i64 m, .slice A n c] 26 (0, 0))) ∧ (Below w.heap.size w wl0)) (n2 - 0) ?_ ?_
  ·exact ⟨0, Kn.of, rfl, (Nat.zero_le _), rfl, x6, c17⟩
  rintro am0 aa0 wl0 K7 h7 ⟨K, ⟨U0, rfl⟩, rfl, hk, hok, x6, c18⟩
  refine wk fun K8 h8 => ?_
  refine wk fun K9 h9 => ?_
  refine Rq 4 ?_
  refine Fv (.int .i64 (K : Int)) ?_
  refine Fv (.slice A2 n2 c2) ?_
  refine Fq (.int .i64 (n2 : Int)) (r_len (A := A2) (n := n2) (c := c2) rfl ek kk) ?_
  by_cases q19 : ((K : Int) : Int) < ((n2 : Int) : Int)
  ·refine Fq (.bool true) (r_lss (m := (K : Int)) (n := (n2 : Int)) rfl ek ek (dt q19)) ?_
   apply F.es
   apply h9
   refine wp_cond_true ek ?_
   apply wp_skip
   apply h8
   refine wk fun K10 h10 => ?_
   refine wp_block ?_
   refine wk fun K11 h11 => ?_
   refine W.region_plain (row := none) [(0, false), (1, false), (2, false), (3, false), (4, true), (5, true)] kk ?_
   have s20 := SG.self wl0 none
   refine Fv (.slice A2 n2 c2) ?_
   refine Fv (.int .i64 (K : Int)) ?_
   obtain ⟨x21, hx22⟩ := get_of (zs := vs) (k := K) (by have := hl2; omega)
   obtain ⟨b23, o24, hA25, hb26, hc27, hc28, hc29, hc30⟩ := Rd.elValve hb hx22
   refine Fq (.pointer (some ⟨b23, o24 + K * 4, none⟩)) (r_idx (n := n2) (c := c2) (k := K) rfl ek hA25 kk kk (by have := hl2; omega)) ?_
   refine Fq (.agg #[.int .i64 x21.id, .int .i64 x21.pipe, .int .i64 x21.node, .bool x21.shut]) (r_load4 rfl ek kk kk (sgS (later c18 hc27) (by simp)) (sgS (later c18 hc28) (by simp)) (sgS (later c18 hc29) (by simp)) (sgS (later c18 hc30) (by simp))) ?_
   refine W.sn (fun b => .pointer (some ⟨b, 0, none⟩)) #[.int .i64 0, .int .i64 0, .int .i64 0, .bool false] 40 s20 rfl kk rfl (fun _ => by kernel_rfl) (fun b31 w32 hb33 k34 x35 s36 => ?_)
   apply F.nx
   have lo37 : w.heap.size ≤ b31 := Nl ((Sb c18 s20 nkk)).size (Nat.le_of_eq hb33)
   refine W.ss (v := .agg #[.int .i64 x21.id, .int .i64 x21.pipe, .int .i64 x21.node, .bool x21.shut]) (j := 0) (news := [.int .i64 x21.id, .int .i64 x21.pipe, .int .i64 x21.node, .bool x21.shut]) (cs' := #[.int .i64 x21.id, .int .i64 x21.pipe, .int .i64 x21.node, .bool x21.shut]) s36 rfl kk rfl rfl kk kk x35 kk kk (by simp) kk kk (.inr (Nl (s20).size (Nat.le_of_eq hb33))) (fun w39 g40 x41 s42 => ?_)
   apply F.es
   have x6 := Sk s42 x6 onn
   have c43 := (Sb c18 s42 nkk)
   apply h11
   refine wk fun K12 h12 => ?_
   refine W.region_plain (row := none) [(0, false), (1, false), (2, false), (3, true), (4, false)] kk ?_
   have s44 := SG.self w39 none
   refine Fq (.agg #[.int .i64 m, .slice A n c]) (r_load2 rfl ek kk kk (sgS (blk_cell (j := 0) x6 kk) onn) (sgS (blk_cell (j := 1) x6 kk) onn)) ?_
   refine Fq (.pointer (some ⟨b31, 1, none⟩)) (r_field (k := 1) rfl ek kk) ?_
   refine Fl (.int .i64 x21.pipe) (sgS (blk_cell (j := 1) x41 kk) onn) ?_
   refine Fc [.agg #[.int .i64 m, .slice A n c], .int .i64 x21.pipe] (l2Find_any m A n c ps x21.pipe _ (Rk ha (Sb c43 s44 nkk)) (by omega)) ?_
   rintro e w46 ⟨rfl, b45⟩
   have s47 := SG.of_below s44 b45
   refine ⟨_, rfl, s47, ?_⟩
   apply F.nx
   refine Fa (.int .i64 (findL ps x21.pipe)) ?_
   apply F.es
   have x6 := Sk s47 x6 onn
   have x41 := Sk s47 x41 onn
   have c48 := (Sb c43 s47 nkk)
   apply h12
   refine wk fun K13 h13 => ?_
   refine wk fun K14 h14 => ?_
   refine W.region_sch (row := none) (Sch.of [(0, false), (1, false), (2, true), (3, false), (4, false), (5, false), (6, false), (7, false), (8, false), (9, false), (10, false), (11, false), (12, false), (13, false), (14, false), (15, false), (16, false), (17, false), (18, false), (19, false), (20, false), (21, false), (22, false), (23, false), (24, false), (25, false), (26, false), (27, false), (28, false), (29, false), (30, false), (31, false), (32, false), (33, false), (34, false), (35, false), (36, false), (37, false), (38, false), (39, false), (40, false), (41, false), (42, false), (43, false), (44, false)]) kk kk (fun _ d _ _ _ h => by cases d <;> exact h) kk (fun w49 e50 s51 => ?_)
   refine Fq (.pointer (some ⟨b31, 0, none⟩)) (r_field0 rfl ek kk) ?_
   refine Fl (.int .i64 x21.id) (sgS (blk_cell (j := 0) x41 kk) onn) ?_
   refine Fc [.int .i64 x21.id, .int .i64 1, .int .i64 99] (l1In_any x21.id 1 99 _) ?_
   rintro e w' ⟨rfl, rfl⟩
   refine ⟨_, rfl, s51, ?_⟩
   apply F.nx
   rcases Bool.eq_false_or_eq_true (inB x21.id 1 99) with q54 | q54
   ·rw [q54]
    refine Fq (.bool false) (r_not (b := true) rfl ek rfl) ?_
    refine Fv (.bool false) ?_
    refine Fv (.int .i64 (K : Int)) ?_
    by_cases q55 : ((K : Int) : Int) > (0 : Int)
    ·obtain ⟨k, rfl⟩ : ∃ k, K = k + 1 := ⟨K - 1, by omega⟩
     refine Fq (.bool true) (r_gtr (m := (((k + 1) : Nat) : Int)) (n := 0) rfl ek ek (dt q55)) ?_
     refine Fv (.bool true) ?_
     refine Fv (.slice A2 n2 c2) ?_
     refine Fv (.int .i64 (((k + 1) : Nat) : Int)) ?_
     refine Fq (.int .i64 (k : Int)) (r_sub (m := (((k + 1) : Nat) : Int)) (n := 1) (z := (k : Int)) rfl ek ek (by omega) (by omega)) ?_
     obtain ⟨x56, hx57⟩ := get_of (zs := vs) (k := k) (by have := hl2; omega)
     obtain ⟨b58, o59, hA60, hb61, hc62, hc63, hc64, hc65⟩ := Rd.elValve hb hx57
     refine Fq (.pointer (some ⟨b58, o59 + k * 4, none⟩)) (r_idx (n := n2) (c := c2) (k := k) rfl ek hA60 kk kk (by have := hl2; omega)) ?_
     refine Fq (.pointer (some ⟨b58, o59 + k * 4, none⟩)) (r_field0 rfl ek kk) ?_
     refine Fl (.int .i64 x56.id) (sgS (later c48 hc62) (by simp)) ?_
     refine Fq (.pointer (some ⟨b31, 0, none⟩)) (r_field0 rfl ek kk) ?_
     refine Fl (.int .i64 x21.id) (sgS (blk_cell (j := 0) x41 kk) onn) ?_
     by_cases q66 : (x56.id : Int) ≥ (x21.id : Int)
     ·refine Fq (.bool true) (r_geq (m := x56.id) (n := x21.id) rfl ek ek (dt q66)) ?_
      refine Fq (.bool true) (r_pick (b := true) rfl ek ek) ?_
      refine Fq (.bool true) (r_pick (b := false) rfl ek ek) ?_
      refine Fv (.bool true) ?_
      refine Fs s51 ?_
      refine Fs s51 ?_
      refine Fq (.bool true) (r_pick (b := true) rfl ek ek) ?_
      refine Fv (.bool true) ?_
      refine Fs s51 ?_
      refine Fs s51 ?_
      refine Fs s51 ?_
      refine Fs s51 ?_
      refine Fs s51 ?_
      refine Fs s51 ?_
      refine Fs s51 ?_
      refine Fs s51 ?_
      refine Fs s51 ?_
      refine Fs s51 ?_
      refine Fs s51 ?_
      refine Fs s51 ?_
      refine Fs s51 ?_
      refine Fs s51 ?_
      refine Fs s51 ?_
      refine Fs s51 ?_
      refine Fs s51 ?_
      refine Fs s51 ?_
      refine Fs s51 ?_
      refine Fs s51 ?_
      refine Fq (.bool true) (r_pick (b := true) rfl ek ek) ?_
      apply F.es
      have x6 := Sk s51 x6 onn
      have x41 := Sk s51 x41 onn
      have c67 := (Sb c48 s51 nkk)
      apply h14
      refine wp_cond_true ek ?_
      refine wk fun K15 h15 => ?_
      refine Rq 1 ?_
      refine Fa (.bool false) ?_
      apply F.es
      apply h15
      refine wp_ret ?_
      try simp only [Exit.then, Exit.inBlock]
      refine ret1 (v := .bool false) rfl kk ?_
      have e8 : okV ps vs (k + 1) = false := Bool.eq_false_iff.2 (fun h9 => by
        have h8 := (okV_iff hx22).1 h9
        obtain ⟨⟨hA, hB⟩, hC, hD⟩ := h8
        obtain ⟨hC0, p9, hp9, hC1⟩ := endAt_pos hC
        have hB' := of_decide_eq_true ((above_next hx57).symm.trans hB)
        first | omega | (rw [inB_iff.2 hA] at q54; cases q54))
      exact ⟨ret_bool (goodV_bad (k := k + 1) (by omega) e8).symm, c67⟩
     refine Fq (.bool false) (r_geq (m := x56.id) (n := x21.id) rfl ek ek (df q66)) ?_
     refine Fq (.bool false) (r_pick (b := true) rfl ek ek) ?_
     refine Fq (.bool false) (r_pick (b := false) rfl ek ek) ?_
     refine Fv (.bool false) ?_
     refine Fv (.int .i64 (findL ps x21.pipe)) ?_
     by_cases q68 : (findL ps x21.pipe : Int) < (0 : Int)
     ·refine Fq (.bool true) (r_lss (m := findL ps x21.pipe) (n := 0) rfl ek ek (dt q68)) ?_
      refine Fq (.bool true) (r_pick (b := false) rfl ek ek) ?_
      refine Fv (.bool true) ?_
      refine Fs s51 ?_
      refine Fs s51 ?_
      refine Fs s51 ?_
      refine Fs s51 ?_
      refine Fs s51 ?_
      refine Fs s51 ?_
      refine Fs s51 ?_
      refine Fs s51 ?_
      refine Fs s51 ?_
      refine Fs s51 ?_
      refine Fs s51 ?_
      refine Fs s51 ?_
      refine Fs s51 ?_
      refine Fs s51 ?_
      refine Fs s51 ?_
      refine Fs s51 ?_
      refine Fs s51 ?_
      refine Fs s51 ?_
      refine Fs s51 ?_
      refine Fs s51 ?_
      refine Fq (.bool true) (r_pick (b := true) rfl ek ek) ?_
      apply F.es
      have x6 := Sk s51 x6 onn
      have x41 := Sk s51 x41 onn
      have c69 := (Sb c48 s51 nkk)
      apply h14
      refine wp_cond_true ek ?_
      refine wk fun K16 h16 => ?_
      refine Rq 1 ?_
      refine Fa (.bool false) ?_
      apply F.es
      apply h16
      refine wp_ret ?_
      try simp only [Exit.then, Exit.inBlock]
      refine ret1 (v := .bool false) rfl kk ?_
      have e8 : okV ps vs (k + 1) = false := Bool.eq_false_iff.2 (fun h9 => by
        have h8 := (okV_iff hx22).1 h9
        obtain ⟨⟨hA, hB⟩, hC, hD⟩ := h8
        obtain ⟨hC0, p9, hp9, hC1⟩ := endAt_pos hC
        have hB' := of_decide_eq_true ((above_next hx57).symm.trans hB)
        first | omega | (rw [inB_iff.2 hA] at q54; cases q54))
      exact ⟨ret_bool (goodV_bad (k := k + 1) (by omega) e8).symm, c69⟩
     refine Fq (.bool false) (r_lss (m := findL ps x21.pipe) (n := 0) rfl ek ek (df q68)) ?_
     refine Fq (.bool false) (r_pick (b := false) rfl ek ek) ?_
     refine Fv (.bool false) ?_
     refine Fq (.pointer (some ⟨b2, 1, none⟩)) (r_field (k := 1) rfl ek kk) ?_
     refine Fl (.slice A n c) (sgS (blk_cell (j := 1) x6 kk) onn) ?_
     refine Fv (.int .i64 (findL ps x21.pipe)) ?_
     have hfl := findL_lt ps x21.pipe
     obtain ⟨x70, hx71⟩ := get_of (zs := ps) (k := (findL ps x21.pipe).toNat) (by have := hl; omega)
     obtain ⟨b72, o73, hA74, hb75, hc76, hc77, hc78, hc79⟩ := Rd.elPipe ha hx71
     refine Fq (.pointer (some ⟨b72, o73 + ((findL ps x21.pipe).toNat) * 4, none⟩)) (r_idx (n := n) (c := c) (k := (findL ps x21.pipe).toNat) rfl ek hA74 (evk (z := findL ps x21.pipe) kk (by omega)) kk (by have := hl; omega)) ?_
     refine Fq (.pointer (some ⟨b72, o73 + ((findL ps x21.pipe).toNat) * 4 + 1, none⟩)) (r_field (k := 1) rfl ek kk) ?_
     refine Fl (.int .i64 x70.fr) (sgS (later c48 hc77) (by simp)) ?_
     refine Fq (.pointer (some ⟨b31, 2, none⟩)) (r_field (k := 2) rfl ek kk) ?_
     refine Fl (.int .i64 x21.node) (sgS (blk_cell (j := 2) x41 kk) onn) ?_
     by_cases q80 : (x70.fr : Int) ≠ (x21.node : Int)
     ·refine Fq (.bool true) (r_neq (m := x70.fr) (n := x21.node) rfl ek ek (dt q80)) ?_
      refine Fv (.bool true) ?_
      refine Fq (.pointer (some ⟨b2, 1, none⟩)) (r_field (k := 1) rfl ek kk) ?_
      refine Fl (.slice A n c) (sgS (blk_cell (j := 1) x6 kk) onn) ?_
      refine Fv (.int .i64 (findL ps x21.pipe)) ?_
      refine Fq (.pointer (some ⟨b72, o73 + ((findL ps x21.pipe).toNat) * 4, none⟩)) (r_idx (n := n) (c := c) (k := (findL ps x21.pipe).toNat) rfl ek hA74 (evk (z := findL ps x21.pipe) kk (by omega)) kk (by have := hl; omega)) ?_
      refine Fq (.pointer (some ⟨b72, o73 + ((findL ps x21.pipe).toNat) * 4 + 2, none⟩)) (r_field (k := 2) rfl ek kk) ?_
      refine Fl (.int .i64 x70.to) (sgS (later c48 hc78) (by simp)) ?_
      refine Fq (.pointer (some ⟨b31, 2, none⟩)) (r_field (k := 2) rfl ek kk) ?_
      refine Fl (.int .i64 x21.node) (sgS (blk_cell (j := 2) x41 kk) onn) ?_
      by_cases q81 : (x70.to : Int) ≠ (x21.node : Int)
      ·refine Fq (.bool true) (r_neq (m := x70.to) (n := x21.node) rfl ek ek (dt q81)) ?_
       refine Fq (.bool true) (r_pick (b := true) rfl ek ek) ?_
       refine Fq (.bool true) (r_pick (b := false) rfl ek ek) ?_
       apply F.es
       have x6 := Sk s51 x6 onn
       have x41 := Sk s51 x41 onn
       have c82 := (Sb c48 s51 nkk)
       apply h14
       refine wp_cond_true ek ?_
       refine wk fun K17 h17 => ?_
       refine Rq 1 ?_
       refine Fa (.bool false) ?_
       apply F.es
       apply h17
       refine wp_ret ?_
       try simp only [Exit.then, Exit.inBlock]
       refine ret1 (v := .bool false) rfl kk ?_
       have e8 : okV ps vs (k + 1) = false := Bool.eq_false_iff.2 (fun h9 => by
         have h8 := (okV_iff hx22).1 h9
         obtain ⟨⟨hA, hB⟩, hC, hD⟩ := h8
         obtain ⟨hC0, p9, hp9, hC1⟩ := endAt_pos hC
         have hB' := of_decide_eq_true ((above_next hx57).symm.trans hB)
         obtain rfl := Option.some.inj (hp9.symm.trans hx71)
         first | omega | (rw [inB_iff.2 hA] at q54; cases q54))
       exact ⟨ret_bool (goodV_bad (k := k + 1) (by omega) e8).symm, c82⟩
      refine Fq (.bool false) (r_neq (m := x70.to) (n := x21.node) rfl ek ek (df q81)) ?_
      refine Fq (.bool false) (r_pick (b := true) rfl ek ek) ?_
      refine Fq (.bool false) (r_pick (b := false) rfl ek ek) ?_
      apply F.es
      have x6 := Sk s51 x6 onn
      have x41 := Sk s51 x41 onn
      have c83 := (Sb c48 s51 nkk)
      apply h14
      refine wp_cond_false ek ?_
      apply wp_skip
      apply h13
      refine wk fun K18 h18 => ?_
      refine Rq 1 ?_
      refine Fa (.int .i64 0) ?_
      apply F.es
      apply h18
      refine wp_block ?_
      refine loopK (fun am1 aa1 wl1 => ∃ (j : Nat) , Kn aa1 [(0, .agg #[.int .i64 m, .slice A n c]), (1, .slice A2 n2 c2), (2, .pointer (some ⟨b2, 0, none⟩)), (4, .bool false), (5, .int .i64 (((k + 1) : Nat) : Int)), (6, .pointer (some ⟨b31, 0, none⟩)), (7, .int .i64 (findL ps x21.pipe)), (8, .int .i64 (j : Int)), (16, .bool false), (20, .bool true), (75, .bool false)] 99 ∧ (am1 = (k + 1) - j) ∧ (j ≤ k + 1) ∧ (∀ i z, i < j → vs[i]? = some z → ¬ (z.pipe = x21.pipe ∧ z.node = x21.node)) ∧ (wl1.heap[b2]? = some (.cells #[.int .i64 m, .slice A n c] 26 (0, 0))) ∧ (wl1.heap[b31]? = some (.cells #[.int .i64 x21.id, .int .i64 x21.pipe, .int .i64 x21.node, .bool x21.shut] 40 (0, 0))) ∧ (Below w.heap.size w wl1)) ((k + 1) - 0) ?_ ?_
      ·exact ⟨0, Kn.of, rfl, (Nat.zero_le _), (fun i z hi => absurd hi (by omega)), x6, x41, c83⟩
      rintro am1 aa1 wl1 K19 h19 ⟨j, ⟨U1, rfl⟩, rfl, hj, hno, x6, x41, c84⟩
      refine wk fun K20 h20 => ?_
      refine wk fun K21 h21 => ?_
      refine Rq 3 ?_
      refine Fv (.int .i64 (j : Int)) ?_
      refine Fv (.int .i64 (((k + 1) : Nat) : Int)) ?_
      by_cases q85 : ((j : Int) : Int) < ((((k + 1) : Nat) : Int) : Int)
      ·refine Fq (.bool true) (r_lss (m := (j : Int)) (n := (((k + 1) : Nat) : Int)) rfl ek ek (dt q85)) ?_
       apply F.es
       apply h21
       refine wp_cond_true ek ?_
       apply wp_skip
       apply h20
       refine wk fun K22 h22 => ?_
       refine wp_block ?_
       refine wk fun K23 h23 => ?_
       refine W.region_sch (row := none) (Sch.of [(0, false), (1, false), (2, false), (3, false), (4, false), (5, false), (6, false), (7, false), (8, false), (9, false), (10, false), (11, false), (12, false), (13, false), (14, false), (15, false), (16, false), (17, false)]) kk kk (fun _ d _ _ _ h => by cases d <;> exact h) kk (fun w86 e87 s88 => ?_)
       refine Fv (.slice A2 n2 c2) ?_
       refine Fv (.int .i64 (j : Int)) ?_
       obtain ⟨x89, hx90⟩ := get_of (zs := vs) (k := j) (by have := hl2; omega)
       obtain ⟨b91, o92, hA93, hb94, hc95, hc96, hc97, hc98⟩ := Rd.elValve hb hx90
       refine Fq (.pointer (some ⟨b91, o92 + j * 4, none⟩)) (r_idx (n := n2) (c := c2) (k := j) rfl ek hA93 kk kk (by have := hl2; omega)) ?_
       refine Fq (.pointer (some ⟨b91, o92 + j * 4 + 1, none⟩)) (r_field (k := 1) rfl ek kk) ?_
       refine Fl (.int .i64 x89.pipe) (sgS (later c84 hc96) (by simp)) ?_
       refine Fq (.pointer (some ⟨b31, 1, none⟩)) (r_field (k := 1) rfl ek kk) ?_
       refine Fl (.int .i64 x21.pipe) (sgS (blk_cell (j := 1) x41 kk) onn) ?_
       by_cases q99 : (x89.pipe : Int) = (x21.pipe : Int)
       ·refine Fq (.bool true) (r_eql (m := x89.pipe) (n := x21.pipe) rfl ek ek (dt q99)) ?_
        refine Fv (.bool true) ?_
        refine Fv (.slice A2 n2 c2) ?_
        refine Fv (.int .i64 (j : Int)) ?_
        refine Fq (.pointer (some ⟨b91, o92 + j * 4, none⟩)) (r_idx (n := n2) (c := c2) (k := j) rfl ek hA93 kk kk (by have := hl2; omega)) ?_
        refine Fq (.pointer (some ⟨b91, o92 + j * 4 + 2, none⟩)) (r_field (k := 2) rfl ek kk) ?_
        refine Fl (.int .i64 x89.node) (sgS (later c84 hc97) (by simp)) ?_
        refine Fq (.pointer (some ⟨b31, 2, none⟩)) (r_field (k := 2) rfl ek kk) ?_
        refine Fl (.int .i64 x21.node) (sgS (blk_cell (j := 2) x41 kk) onn) ?_
        by_cases q100 : (x89.node : Int) = (x21.node : Int)
        ·refine Fq (.bool true) (r_eql (m := x89.node) (n := x21.node) rfl ek ek (dt q100)) ?_
         refine Fq (.bool true) (r_pick (b := true) rfl ek ek) ?_
         apply F.es
         have x6 := Sk s88 x6 onn
         have x41 := Sk s88 x41 onn
         have c101 := (Sb c84 s88 nkk)
         apply h23
         refine wp_cond_true ek ?_
         refine wk fun K24 h24 => ?_
         refine Rq 1 ?_
         refine Fa (.bool false) ?_
         apply F.es
         apply h24
         refine wp_ret ?_
         try simp only [Exit.then, Exit.inBlock]
         refine ret1 (v := .bool false) rfl kk ?_
         have e8 : okV ps vs (k + 1) = false := Bool.eq_false_iff.2 (fun h9 => by
           have h8 := (okV_iff hx22).1 h9
           obtain ⟨⟨hA, hB⟩, hC, hD⟩ := h8
           obtain ⟨hC0, p9, hp9, hC1⟩ := endAt_pos hC
           have hB' := of_decide_eq_true ((above_next hx57).symm.trans hB)
           obtain rfl := Option.some.inj (hp9.symm.trans hx71)
           exact absurd (placed_yes (k := k + 1) (a := x21.pipe) (b := x21.node) hx90 (by omega) q99 q100) (by rw [hD]; simp))
         exact ⟨ret_bool (goodV_bad (k := k + 1) (by omega) e8).symm, c101⟩
        refine Fq (.bool false) (r_eql (m := x89.node) (n := x21.node) rfl ek ek (df q100)) ?_
        refine Fq (.bool false) (r_pick (b := true) rfl ek ek) ?_
        apply F.es
        have x6 := Sk s88 x6 onn
        have x41 := Sk s88 x41 onn
        have c102 := (Sb c84 s88 nkk)
        apply h23
        refine wp_cond_false ek ?_
        apply wp_skip
        apply h22
        refine Rq 3 ?_
        refine Fv (.int .i64 (j : Int)) ?_
        refine Fq (.int .i64 ((j + 1 : Nat) : Int)) (r_add (m := (j : Int)) (n := 1) (z := ((j + 1 : Nat) : Int)) rfl ek ek (by omega) (by omega)) ?_
        refine Fa (.int .i64 ((j + 1 : Nat) : Int)) ?_
        apply F.es
        exact h19 _ _ _ (by omega : ((k + 1) - (j + 1)) < _) ⟨j + 1, Kn.of, rfl, (by omega), (upto_succ (Q := fun z => ¬ (z.pipe = x21.pipe ∧ z.node = x21.node)) hno hx90 (by omega)), x6, x41, c102⟩
       refine Fq (.bool false) (r_eql (m := x89.pipe) (n := x21.pipe) rfl ek ek (df q99)) ?_
       refine Fv (.bool false) ?_
       refine Fs s88 ?_
       refine Fs s88 ?_
       refine Fs s88 ?_
       refine Fs s88 ?_
       refine Fs s88 ?_
       refine Fs s88 ?_
       refine Fs s88 ?_
       refine Fs s88 ?_
       refine Fq (.bool false) (r_pick (b := false) rfl ek ek) ?_
       apply F.es
       have x6 := Sk s88 x6 onn
       have x41 := Sk s88 x41 onn
       have c103 := (Sb c84 s88 nkk)
       apply h23
       refine wp_cond_false ek ?_
       apply wp_skip
       apply h22
       refine Rq 3 ?_
       refine Fv (.int .i64 (j : Int)) ?_
       refine Fq (.int .i64 ((j + 1 : Nat) : Int)) (r_add (m := (j : Int)) (n := 1) (z := ((j + 1 : Nat) : Int)) rfl ek ek (by omega) (by omega)) ?_
       refine Fa (.int .i64 ((j + 1 : Nat) : Int)) ?_
       apply F.es
       exact h19 _ _ _ (by omega : ((k + 1) - (j + 1)) < _) ⟨j + 1, Kn.of, rfl, (by omega), (upto_succ (Q := fun z => ¬ (z.pipe = x21.pipe ∧ z.node = x21.node)) hno hx90 (by omega)), x6, x41, c103⟩
      refine Fq (.bool false) (r_lss (m := (j : Int)) (n := (((k + 1) : Nat) : Int)) rfl ek ek (df q85)) ?_
      apply F.es
      apply h21
      refine wp_cond_false ek ?_
      refine wp_exit ?_
      apply h10
      refine Rq 3 ?_
      refine Fv (.int .i64 (((k + 1) : Nat) : Int)) ?_
      refine Fq (.int .i64 (((k + 1) + 1 : Nat) : Int)) (r_add (m := (((k + 1) : Nat) : Int)) (n := 1) (z := (((k + 1) + 1 : Nat) : Int)) rfl ek ek (by omega) (by omega)) ?_
      refine Fa (.int .i64 (((k + 1) + 1 : Nat) : Int)) ?_
      apply F.es
      exact h7 _ _ _ (by omega : (n2 - (k + 1 + 1)) < _) ⟨k + 1 + 1, Kn.of, rfl, (by omega), (okVTo_next hok ((okV_iff hx22).2 ⟨⟨inB_iff.1 q54, (by rw [above_next hx57]; exact decide_eq_true (by omega))⟩, endAt_of (by omega) hx71 (by omega), placed_no hno (by omega)⟩)), x6, c84⟩
     refine Fq (.bool false) (r_neq (m := x70.fr) (n := x21.node) rfl ek ek (df q80)) ?_
     refine Fv (.bool false) ?_
     refine Fs s51 ?_
     refine Fs s51 ?_
     refine Fs s51 ?_
     refine Fs s51 ?_
     refine Fs s51 ?_
     refine Fs s51 ?_
     refine Fs s51 ?_
     refine Fs s51 ?_
     refine Fs s51 ?_
     refine Fq (.bool false) (r_pick (b := false) rfl ek ek) ?_
     refine Fq (.bool false) (r_pick (b := false) rfl ek ek) ?_
     apply F.es
     have x6 := Sk s51 x6 onn
     have x41 := Sk s51 x41 onn
     have c104 := (Sb c48 s51 nkk)
     apply h14
     refine wp_cond_false ek ?_
     apply wp_skip
     apply h13
     refine wk fun K25 h25 => ?_
     refine Rq 1 ?_
     refine Fa (.int .i64 0) ?_
     apply F.es
     apply h25
     refine wp_block ?_
     refine loopK (fun am1 aa1 wl1 => ∃ (j : Nat) , Kn aa1 [(0, .agg #[.int .i64 m, .slice A n c]), (1, .slice A2 n2 c2), (2, .pointer (some ⟨b2, 0, none⟩)), (4, .bool false), (5, .int .i64 (((k + 1) : Nat) : Int)), (6, .pointer (some ⟨b31, 0, none⟩)), (7, .int .i64 (findL ps x21.pipe)), (8, .int .i64 (j : Int)), (16, .bool false), (20, .bool true), (75, .bool false)] 99 ∧ (am1 = (k + 1) - j) ∧ (j ≤ k + 1) ∧ (∀ i z, i < j → vs[i]? = some z → ¬ (z.pipe = x21.pipe ∧ z.node = x21.node)) ∧ (wl1.heap[b2]? = some (.cells #[.int .i64 m, .slice A n c] 26 (0, 0))) ∧ (wl1.heap[b31]? = some (.cells #[.int .i64 x21.id, .int .i64 x21.pipe, .int .i64 x21.node, .bool x21.shut] 40 (0, 0))) ∧ (Below w.heap.size w wl1)) ((k + 1) - 0) ?_ ?_
     ·exact ⟨0, Kn.of, rfl, (Nat.zero_le _), (fun i z hi => absurd hi (by omega)), x6, x41, c104⟩
     rintro am1 aa1 wl1 K26 h26 ⟨j, ⟨U1, rfl⟩, rfl, hj, hno, x6, x41, c105⟩
     refine wk fun K27 h27 => ?_
     refine wk fun K28 h28 => ?_
     refine Rq 3 ?_
     refine Fv (.int .i64 (j : Int)) ?_
     refine Fv (.int .i64 (((k + 1) : Nat) : Int)) ?_
     by_cases q106 : ((j : Int) : Int) < ((((k + 1) : Nat) : Int) : Int)
     ·refine Fq (.bool true) (r_lss (m := (j : Int)) (n := (((k + 1) : Nat) : Int)) rfl ek ek (dt q106)) ?_
      apply F.es
      apply h28
      refine wp_cond_true ek ?_
      apply wp_skip
      apply h27
      refine wk fun K29 h29 => ?_
      refine wp_block ?_
      refine wk fun K30 h30 => ?_
      refine W.region_sch (row := none) (Sch.of [(0, false), (1, false), (2, false), (3, false), (4, false), (5, false), (6, false), (7, false), (8, false), (9, false), (10, false), (11, false), (12, false), (13, false), (14, false), (15, false), (16, false), (17, false)]) kk kk (fun _ d _ _ _ h => by cases d <;> exact h) kk (fun w107 e108 s109 => ?_)
      refine Fv (.slice A2 n2 c2) ?_
      refine Fv (.int .i64 (j : Int)) ?_
      obtain ⟨x110, hx111⟩ := get_of (zs := vs) (k := j) (by have := hl2; omega)
      obtain ⟨b112, o113, hA114, hb115, hc116, hc117, hc118, hc119⟩ := Rd.elValve hb hx111
      refine Fq (.pointer (some ⟨b112, o113 + j * 4, none⟩)) (r_idx (n := n2) (c := c2) (k := j) rfl ek hA114 kk kk (by have := hl2; omega)) ?_
      refine Fq (.pointer (some ⟨b112, o113 + j * 4 + 1, none⟩)) (r_field (k := 1) rfl ek kk) ?_
      refine Fl (.int .i64 x110.pipe) (sgS (later c105 hc117) (by simp)) ?_
      refine Fq (.pointer (some ⟨b31, 1, none⟩)) (r_field (k := 1) rfl ek kk) ?_
      refine Fl (.int .i64 x21.pipe) (sgS (blk_cell (j := 1) x41 kk) onn) ?_
      by_cases q120 : (x110.pipe : Int) = (x21.pipe : Int)
      ·refine Fq (.bool true) (r_eql (m := x110.pipe) (n := x21.pipe) rfl ek ek (dt q120)) ?_
       refine Fv (.bool true) ?_
       refine Fv (.slice A2 n2 c2) ?_
       refine Fv (.int .i64 (j : Int)) ?_
       refine Fq (.pointer (some ⟨b112, o113 + j * 4, none⟩)) (r_idx (n := n2) (c := c2) (k := j) rfl ek hA114 kk kk (by have := hl2; omega)) ?_
       refine Fq (.pointer (some ⟨b112, o113 + j * 4 + 2, none⟩)) (r_field (k := 2) rfl ek kk) ?_
       refine Fl (.int .i64 x110.node) (sgS (later c105 hc118) (by simp)) ?_
       refine Fq (.pointer (some ⟨b31, 2, none⟩)) (r_field (k := 2) rfl ek kk) ?_
       refine Fl (.int .i64 x21.node) (sgS (blk_cell (j := 2) x41 kk) onn) ?_
       by_cases q121 : (x110.node : Int) = (x21.node : Int)
       ·refine Fq (.bool true) (r_eql (m := x110.node) (n := x21.node) rfl ek ek (dt q121)) ?_
        refine Fq (.bool true) (r_pick (b := true) rfl ek ek) ?_
        apply F.es
        have x6 := Sk s109 x6 onn
        have x41 := Sk s109 x41 onn
        have c122 := (Sb c105 s109 nkk)
        apply h30
        refine wp_cond_true ek ?_
        refine wk fun K31 h31 => ?_
        refine Rq 1 ?_
        refine Fa (.bool false) ?_
        apply F.es
        apply h31
        refine wp_ret ?_
        try simp only [Exit.then, Exit.inBlock]
        refine ret1 (v := .bool false) rfl kk ?_
        have e8 : okV ps vs (k + 1) = false := Bool.eq_false_iff.2 (fun h9 => by
          have h8 := (okV_iff hx22).1 h9
          obtain ⟨⟨hA, hB⟩, hC, hD⟩ := h8
          obtain ⟨hC0, p9, hp9, hC1⟩ := endAt_pos hC
          have hB' := of_decide_eq_true ((above_next hx57).symm.trans hB)
          obtain rfl := Option.some.inj (hp9.symm.trans hx71)
          exact absurd (placed_yes (k := k + 1) (a := x21.pipe) (b := x21.node) hx111 (by omega) q120 q121) (by rw [hD]; simp))
        exact ⟨ret_bool (goodV_bad (k := k + 1) (by omega) e8).symm, c122⟩
       refine Fq (.bool false) (r_eql (m := x110.node) (n := x21.node) rfl ek ek (df q121)) ?_
       refine Fq (.bool false) (r_pick (b := true) rfl ek ek) ?_
       apply F.es
       have x6 := Sk s109 x6 onn
       have x41 := Sk s109 x41 onn
       have c123 := (Sb c105 s109 nkk)
       apply h30
       refine wp_cond_false ek ?_
       apply wp_skip
       apply h29
       refine Rq 3 ?_
       refine Fv (.int .i64 (j : Int)) ?_
       refine Fq (.int .i64 ((j + 1 : Nat) : Int)) (r_add (m := (j : Int)) (n := 1) (z := ((j + 1 : Nat) : Int)) rfl ek ek (by omega) (by omega)) ?_
       refine Fa (.int .i64 ((j + 1 : Nat) : Int)) ?_
       apply F.es
       exact h26 _ _ _ (by omega : ((k + 1) - (j + 1)) < _) ⟨j + 1, Kn.of, rfl, (by omega), (upto_succ (Q := fun z => ¬ (z.pipe = x21.pipe ∧ z.node = x21.node)) hno hx111 (by omega)), x6, x41, c123⟩
      refine Fq (.bool false) (r_eql (m := x110.pipe) (n := x21.pipe) rfl ek ek (df q120)) ?_
      refine Fv (.bool false) ?_
      refine Fs s109 ?_
      refine Fs s109 ?_
      refine Fs s109 ?_
      refine Fs s109 ?_
      refine Fs s109 ?_
      refine Fs s109 ?_
      refine Fs s109 ?_
      refine Fs s109 ?_
      refine Fq (.bool false) (r_pick (b := false) rfl ek ek) ?_
      apply F.es
      have x6 := Sk s109 x6 onn
      have x41 := Sk s109 x41 onn
      have c124 := (Sb c105 s109 nkk)
      apply h30
      refine wp_cond_false ek ?_
      apply wp_skip
      apply h29
      refine Rq 3 ?_
      refine Fv (.int .i64 (j : Int)) ?_
      refine Fq (.int .i64 ((j + 1 : Nat) : Int)) (r_add (m := (j : Int)) (n := 1) (z := ((j + 1 : Nat) : Int)) rfl ek ek (by omega) (by omega)) ?_
      refine Fa (.int .i64 ((j + 1 : Nat) : Int)) ?_
      apply F.es
      exact h26 _ _ _ (by omega : ((k + 1) - (j + 1)) < _) ⟨j + 1, Kn.of, rfl, (by omega), (upto_succ (Q := fun z => ¬ (z.pipe = x21.pipe ∧ z.node = x21.node)) hno hx111 (by omega)), x6, x41, c124⟩
     refine Fq (.bool false) (r_lss (m := (j : Int)) (n := (((k + 1) : Nat) : Int)) rfl ek ek (df q106)) ?_
     apply F.es
     apply h28
     refine wp_cond_false ek ?_
     refine wp_exit ?_
     apply h10
     refine Rq 3 ?_
     refine Fv (.int .i64 (((k + 1) : Nat) : Int)) ?_
     refine Fq (.int .i64 (((k + 1) + 1 : Nat) : Int)) (r_add (m := (((k + 1) : Nat) : Int)) (n := 1) (z := (((k + 1) + 1 : Nat) : Int)) rfl ek ek (by omega) (by omega)) ?_
     refine Fa (.int .i64 (((k + 1) + 1 : Nat) : Int)) ?_
     apply F.es
     exact h7 _ _ _ (by omega : (n2 - (k + 1 + 1)) < _) ⟨k + 1 + 1, Kn.of, rfl, (by omega), (okVTo_next hok ((okV_iff hx22).2 ⟨⟨inB_iff.1 q54, (by rw [above_next hx57]; exact decide_eq_true (by omega))⟩, endAt_of (by omega) hx71 (by omega), placed_no hno (by omega)⟩)), x6, c105⟩
    refine Fq (.bool false) (r_gtr (m := (K : Int)) (n := 0) rfl ek ek (df q55)) ?_
    refine Fv (.bool false) ?_
    refine Fs s51 ?_
    refine Fs s51 ?_
    refine Fs s51 ?_
    refine Fs s51 ?_
    refine Fs s51 ?_
    refine Fs s51 ?_
    refine Fs s51 ?_
    refine Fs s51 ?_
    refine Fs s51 ?_
    refine Fq (.bool false) (r_pick (b := false) rfl ek ek) ?_
    refine Fq (.bool false) (r_pick (b := false) rfl ek ek) ?_
    refine Fv (.bool false) ?_
    refine Fv (.int .i64 (findL ps x21.pipe)) ?_
    by_cases q125 : (findL ps x21.pipe : Int) < (0 : Int)
    ·refine Fq (.bool true) (r_lss (m := findL ps x21.pipe) (n := 0) rfl ek ek (dt q125)) ?_
     refine Fq (.bool true) (r_pick (b := false) rfl ek ek) ?_
     refine Fv (.bool true) ?_
     refine Fs s51 ?_
     refine Fs s51 ?_
     refine Fs s51 ?_
     refine Fs s51 ?_
     refine Fs s51 ?_
     refine Fs s51 ?_
     refine Fs s51 ?_
     refine Fs s51 ?_
     refine Fs s51 ?_
     refine Fs s51 ?_
     refine Fs s51 ?_
     refine Fs s51 ?_
     refine Fs s51 ?_
     refine Fs s51 ?_
     refine Fs s51 ?_
     refine Fs s51 ?_
     refine Fs s51 ?_
     refine Fs s51 ?_
     refine Fs s51 ?_
     refine Fs s51 ?_
     refine Fq (.bool true) (r_pick (b := true) rfl ek ek) ?_
     apply F.es
     have x6 := Sk s51 x6 onn
     have x41 := Sk s51 x41 onn
     have c126 := (Sb c48 s51 nkk)
     apply h14
     refine wp_cond_true ek ?_
     refine wk fun K32 h32 => ?_
     refine Rq 1 ?_
     refine Fa (.bool false) ?_
     apply F.es
     apply h32
     refine wp_ret ?_
     try simp only [Exit.then, Exit.inBlock]
     refine ret1 (v := .bool false) rfl kk ?_
     have e8 : okV ps vs (K) = false := Bool.eq_false_iff.2 (fun h9 => by
       have h8 := (okV_iff hx22).1 h9
       obtain ⟨⟨hA, hB⟩, hC, hD⟩ := h8
       obtain ⟨hC0, p9, hp9, hC1⟩ := endAt_pos hC
       first | omega | (rw [inB_iff.2 hA] at q54; cases q54))
     exact ⟨ret_bool (goodV_bad (k := K) (by omega) e8).symm, c126⟩
    refine Fq (.bool false) (r_lss (m := findL ps x21.pipe) (n := 0) rfl ek ek (df q125)) ?_
    refine Fq (.bool false) (r_pick (b := false) rfl ek ek) ?_
    refine Fv (.bool false) ?_
    refine Fq (.pointer (some ⟨b2, 1, none⟩)) (r_field (k := 1) rfl ek kk) ?_
    refine Fl (.slice A n c) (sgS (blk_cell (j := 1) x6 kk) onn) ?_
    refine Fv (.int .i64 (findL ps x21.pipe)) ?_
    have hfl := findL_lt ps x21.pipe
    obtain ⟨x127, hx128⟩ := get_of (zs := ps) (k := (findL ps x21.pipe).toNat) (by have := hl; omega)
    obtain ⟨b129, o130, hA131, hb132, hc133, hc134, hc135, hc136⟩ := Rd.elPipe ha hx128
    refine Fq (.pointer (some ⟨b129, o130 + ((findL ps x21.pipe).toNat) * 4, none⟩)) (r_idx (n := n) (c := c) (k := (findL ps x21.pipe).toNat) rfl ek hA131 (evk (z := findL ps x21.pipe) kk (by omega)) kk (by have := hl; omega)) ?_
    refine Fq (.pointer (some ⟨b129, o130 + ((findL ps x21.pipe).toNat) * 4 + 1, none⟩)) (r_field (k := 1) rfl ek kk) ?_
    refine Fl (.int .i64 x127.fr) (sgS (later c48 hc134) (by simp)) ?_
    refine Fq (.pointer (some ⟨b31, 2, none⟩)) (r_field (k := 2) rfl ek kk) ?_
    refine Fl (.int .i64 x21.node) (sgS (blk_cell (j := 2) x41 kk) onn) ?_
    by_cases q137 : (x127.fr : Int) ≠ (x21.node : Int)
    ·refine Fq (.bool true) (r_neq (m := x127.fr) (n := x21.node) rfl ek ek (dt q137)) ?_
     refine Fv (.bool true) ?_
     refine Fq (.pointer (some ⟨b2, 1, none⟩)) (r_field (k := 1) rfl ek kk) ?_
     refine Fl (.slice A n c) (sgS (blk_cell (j := 1) x6 kk) onn) ?_
     refine Fv (.int .i64 (findL ps x21.pipe)) ?_
     refine Fq (.pointer (some ⟨b129, o130 + ((findL ps x21.pipe).toNat) * 4, none⟩)) (r_idx (n := n) (c := c) (k := (findL ps x21.pipe).toNat) rfl ek hA131 (evk (z := findL ps x21.pipe) kk (by omega)) kk (by have := hl; omega)) ?_
     refine Fq (.pointer (some ⟨b129, o130 + ((findL ps x21.pipe).toNat) * 4 + 2, none⟩)) (r_field (k := 2) rfl ek kk) ?_
     refine Fl (.int .i64 x127.to) (sgS (later c48 hc135) (by simp)) ?_
     refine Fq (.pointer (some ⟨b31, 2, none⟩)) (r_field (k := 2) rfl ek kk) ?_
     refine Fl (.int .i64 x21.node) (sgS (blk_cell (j := 2) x41 kk) onn) ?_
     by_cases q138 : (x127.to : Int) ≠ (x21.node : Int)
     ·refine Fq (.bool true) (r_neq (m := x127.to) (n := x21.node) rfl ek ek (dt q138)) ?_
      refine Fq (.bool true) (r_pick (b := true) rfl ek ek) ?_
      refine Fq (.bool true) (r_pick (b := false) rfl ek ek) ?_
      apply F.es
      have x6 := Sk s51 x6 onn
      have x41 := Sk s51 x41 onn
      have c139 := (Sb c48 s51 nkk)
      apply h14
      refine wp_cond_true ek ?_
      refine wk fun K33 h33 => ?_
      refine Rq 1 ?_
      refine Fa (.bool false) ?_
      apply F.es
      apply h33
      refine wp_ret ?_
      try simp only [Exit.then, Exit.inBlock]
      refine ret1 (v := .bool false) rfl kk ?_
      have e8 : okV ps vs (K) = false := Bool.eq_false_iff.2 (fun h9 => by
        have h8 := (okV_iff hx22).1 h9
        obtain ⟨⟨hA, hB⟩, hC, hD⟩ := h8
        obtain ⟨hC0, p9, hp9, hC1⟩ := endAt_pos hC
        obtain rfl := Option.some.inj (hp9.symm.trans hx128)
        first | omega | (rw [inB_iff.2 hA] at q54; cases q54))
      exact ⟨ret_bool (goodV_bad (k := K) (by omega) e8).symm, c139⟩
     refine Fq (.bool false) (r_neq (m := x127.to) (n := x21.node) rfl ek ek (df q138)) ?_
     refine Fq (.bool false) (r_pick (b := true) rfl ek ek) ?_
     refine Fq (.bool false) (r_pick (b := false) rfl ek ek) ?_
     apply F.es
     have x6 := Sk s51 x6 onn
     have x41 := Sk s51 x41 onn
     have c140 := (Sb c48 s51 nkk)
     apply h14
     refine wp_cond_false ek ?_
     apply wp_skip
     apply h13
     refine wk fun K34 h34 => ?_
     refine Rq 1 ?_
     refine Fa (.int .i64 0) ?_
     apply F.es
     apply h34
     refine wp_block ?_
     refine loopK (fun am1 aa1 wl1 => ∃ (j : Nat) , Kn aa1 [(0, .agg #[.int .i64 m, .slice A n c]), (1, .slice A2 n2 c2), (2, .pointer (some ⟨b2, 0, none⟩)), (4, .bool false), (5, .int .i64 (K : Int)), (6, .pointer (some ⟨b31, 0, none⟩)), (7, .int .i64 (findL ps x21.pipe)), (8, .int .i64 (j : Int)), (16, .bool false), (20, .bool true), (75, .bool false)] 99 ∧ (am1 = (K) - j) ∧ (j ≤ K) ∧ (∀ i z, i < j → vs[i]? = some z → ¬ (z.pipe = x21.pipe ∧ z.node = x21.node)) ∧ (wl1.heap[b2]? = some (.cells #[.int .i64 m, .slice A n c] 26 (0, 0))) ∧ (wl1.heap[b31]? = some (.cells #[.int .i64 x21.id, .int .i64 x21.pipe, .int .i64 x21.node, .bool x21.shut] 40 (0, 0))) ∧ (Below w.heap.size w wl1)) ((K) - 0) ?_ ?_
     ·exact ⟨0, Kn.of, rfl, (Nat.zero_le _), (fun i z hi => absurd hi (by omega)), x6, x41, c140⟩
     rintro am1 aa1 wl1 K35 h35 ⟨j, ⟨U1, rfl⟩, rfl, hj, hno, x6, x41, c141⟩
     refine wk fun K36 h36 => ?_
     refine wk fun K37 h37 => ?_
     refine Rq 3 ?_
     refine Fv (.int .i64 (j : Int)) ?_
     refine Fv (.int .i64 (K : Int)) ?_
     by_cases q142 : ((j : Int) : Int) < ((K : Int) : Int)
     ·refine Fq (.bool true) (r_lss (m := (j : Int)) (n := (K : Int)) rfl ek ek (dt q142)) ?_
      apply F.es
      apply h37
      refine wp_cond_true ek ?_
      apply wp_skip
      apply h36
      refine wk fun K38 h38 => ?_
      refine wp_block ?_
      refine wk fun K39 h39 => ?_
      refine W.region_sch (row := none) (Sch.of [(0, false), (1, false), (2, false), (3, false), (4, false), (5, false), (6, false), (7, false), (8, false), (9, false), (10, false), (11, false), (12, false), (13, false), (14, false), (15, false), (16, false), (17, false)]) kk kk (fun _ d _ _ _ h => by cases d <;> exact h) kk (fun w143 e144 s145 => ?_)
      refine Fv (.slice A2 n2 c2) ?_
      refine Fv (.int .i64 (j : Int)) ?_
      obtain ⟨x146, hx147⟩ := get_of (zs := vs) (k := j) (by have := hl2; omega)
      obtain ⟨b148, o149, hA150, hb151, hc152, hc153, hc154, hc155⟩ := Rd.elValve hb hx147
      refine Fq (.pointer (some ⟨b148, o149 + j * 4, none⟩)) (r_idx (n := n2) (c := c2) (k := j) rfl ek hA150 kk kk (by have := hl2; omega)) ?_
      refine Fq (.pointer (some ⟨b148, o149 + j * 4 + 1, none⟩)) (r_field (k := 1) rfl ek kk) ?_
      refine Fl (.int .i64 x146.pipe) (sgS (later c141 hc153) (by simp)) ?_
      refine Fq (.pointer (some ⟨b31, 1, none⟩)) (r_field (k := 1) rfl ek kk) ?_
      refine Fl (.int .i64 x21.pipe) (sgS (blk_cell (j := 1) x41 kk) onn) ?_
      by_cases q156 : (x146.pipe : Int) = (x21.pipe : Int)
      ·refine Fq (.bool true) (r_eql (m := x146.pipe) (n := x21.pipe) rfl ek ek (dt q156)) ?_
       refine Fv (.bool true) ?_
       refine Fv (.slice A2 n2 c2) ?_
       refine Fv (.int .i64 (j : Int)) ?_
       refine Fq (.pointer (some ⟨b148, o149 + j * 4, none⟩)) (r_idx (n := n2) (c := c2) (k := j) rfl ek hA150 kk kk (by have := hl2; omega)) ?_
       refine Fq (.pointer (some ⟨b148, o149 + j * 4 + 2, none⟩)) (r_field (k := 2) rfl ek kk) ?_
       refine Fl (.int .i64 x146.node) (sgS (later c141 hc154) (by simp)) ?_
       refine Fq (.pointer (some ⟨b31, 2, none⟩)) (r_field (k := 2) rfl ek kk) ?_
       refine Fl (.int .i64 x21.node) (sgS (blk_cell (j := 2) x41 kk) onn) ?_
       by_cases q157 : (x146.node : Int) = (x21.node : Int)
       ·refine Fq (.bool true) (r_eql (m := x146.node) (n := x21.node) rfl ek ek (dt q157)) ?_
        refine Fq (.bool true) (r_pick (b := true) rfl ek ek) ?_
        apply F.es
        have x6 := Sk s145 x6 onn
        have x41 := Sk s145 x41 onn
        have c158 := (Sb c141 s145 nkk)
        apply h39
        refine wp_cond_true ek ?_
        refine wk fun K40 h40 => ?_
        refine Rq 1 ?_
        refine Fa (.bool false) ?_
        apply F.es
        apply h40
        refine wp_ret ?_
        try simp only [Exit.then, Exit.inBlock]
        refine ret1 (v := .bool false) rfl kk ?_
        have e8 : okV ps vs (K) = false := Bool.eq_false_iff.2 (fun h9 => by
          have h8 := (okV_iff hx22).1 h9
          obtain ⟨⟨hA, hB⟩, hC, hD⟩ := h8
          obtain ⟨hC0, p9, hp9, hC1⟩ := endAt_pos hC
          obtain rfl := Option.some.inj (hp9.symm.trans hx128)
          exact absurd (placed_yes (k := K) (a := x21.pipe) (b := x21.node) hx147 (by omega) q156 q157) (by rw [hD]; simp))
        exact ⟨ret_bool (goodV_bad (k := K) (by omega) e8).symm, c158⟩
       refine Fq (.bool false) (r_eql (m := x146.node) (n := x21.node) rfl ek ek (df q157)) ?_
       refine Fq (.bool false) (r_pick (b := true) rfl ek ek) ?_
       apply F.es
       have x6 := Sk s145 x6 onn
       have x41 := Sk s145 x41 onn
       have c159 := (Sb c141 s145 nkk)
       apply h39
       refine wp_cond_false ek ?_
       apply wp_skip
       apply h38
       refine Rq 3 ?_
       refine Fv (.int .i64 (j : Int)) ?_
       refine Fq (.int .i64 ((j + 1 : Nat) : Int)) (r_add (m := (j : Int)) (n := 1) (z := ((j + 1 : Nat) : Int)) rfl ek ek (by omega) (by omega)) ?_
       refine Fa (.int .i64 ((j + 1 : Nat) : Int)) ?_
       apply F.es
       exact h35 _ _ _ (by omega : ((K) - (j + 1)) < _) ⟨j + 1, Kn.of, rfl, (by omega), (upto_succ (Q := fun z => ¬ (z.pipe = x21.pipe ∧ z.node = x21.node)) hno hx147 (by omega)), x6, x41, c159⟩
      refine Fq (.bool false) (r_eql (m := x146.pipe) (n := x21.pipe) rfl ek ek (df q156)) ?_
      refine Fv (.bool false) ?_
      refine Fs s145 ?_
      refine Fs s145 ?_
      refine Fs s145 ?_
      refine Fs s145 ?_
      refine Fs s145 ?_
      refine Fs s145 ?_
      refine Fs s145 ?_
      refine Fs s145 ?_
      refine Fq (.bool false) (r_pick (b := false) rfl ek ek) ?_
      apply F.es
      have x6 := Sk s145 x6 onn
      have x41 := Sk s145 x41 onn
      have c160 := (Sb c141 s145 nkk)
      apply h39
      refine wp_cond_false ek ?_
      apply wp_skip
      apply h38
      refine Rq 3 ?_
      refine Fv (.int .i64 (j : Int)) ?_
      refine Fq (.int .i64 ((j + 1 : Nat) : Int)) (r_add (m := (j : Int)) (n := 1) (z := ((j + 1 : Nat) : Int)) rfl ek ek (by omega) (by omega)) ?_
      refine Fa (.int .i64 ((j + 1 : Nat) : Int)) ?_
      apply F.es
      exact h35 _ _ _ (by omega : ((K) - (j + 1)) < _) ⟨j + 1, Kn.of, rfl, (by omega), (upto_succ (Q := fun z => ¬ (z.pipe = x21.pipe ∧ z.node = x21.node)) hno hx147 (by omega)), x6, x41, c160⟩
     refine Fq (.bool false) (r_lss (m := (j : Int)) (n := (K : Int)) rfl ek ek (df q142)) ?_
     apply F.es
     apply h37
     refine wp_cond_false ek ?_
     refine wp_exit ?_
     apply h10
     refine Rq 3 ?_
     refine Fv (.int .i64 (K : Int)) ?_
     refine Fq (.int .i64 ((K + 1 : Nat) : Int)) (r_add (m := (K : Int)) (n := 1) (z := ((K + 1 : Nat) : Int)) rfl ek ek (by omega) (by omega)) ?_
     refine Fa (.int .i64 ((K + 1 : Nat) : Int)) ?_
     apply F.es
     exact h7 _ _ _ (by omega : (n2 - (K + 1)) < _) ⟨K + 1, Kn.of, rfl, (by omega), (okVTo_next hok ((okV_iff hx22).2 ⟨⟨inB_iff.1 q54, (by have e0 : K = 0 := (by omega); subst e0; exact above_zero)⟩, endAt_of (by omega) hx128 (by omega), placed_no hno (by omega)⟩)), x6, c141⟩
    refine Fq (.bool false) (r_neq (m := x127.fr) (n := x21.node) rfl ek ek (df q137)) ?_
    refine Fv (.bool false) ?_
    refine Fs s51 ?_
    refine Fs s51 ?_
    refine Fs s51 ?_
    refine Fs s51 ?_
    refine Fs s51 ?_
    refine Fs s51 ?_
    refine Fs s51 ?_
    refine Fs s51 ?_
    refine Fs s51 ?_
    refine Fq (.bool false) (r_pick (b := false) rfl ek ek) ?_
    refine Fq (.bool false) (r_pick (b := false) rfl ek ek) ?_
    apply F.es
    have x6 := Sk s51 x6 onn
    have x41 := Sk s51 x41 onn
    have c161 := (Sb c48 s51 nkk)
    apply h14
    refine wp_cond_false ek ?_
    apply wp_skip
    apply h13
    refine wk fun K41 h41 => ?_
    refine Rq 1 ?_
    refine Fa (.int .i64 0) ?_
    apply F.es
    apply h41
    refine wp_block ?_
    refine loopK (fun am1 aa1 wl1 => ∃ (j : Nat) , Kn aa1 [(0, .agg #[.int .i64 m, .slice A n c]), (1, .slice A2 n2 c2), (2, .pointer (some ⟨b2, 0, none⟩)), (4, .bool false), (5, .int .i64 (K : Int)), (6, .pointer (some ⟨b31, 0, none⟩)), (7, .int .i64 (findL ps x21.pipe)), (8, .int .i64 (j : Int)), (16, .bool false), (20, .bool true), (75, .bool false)] 99 ∧ (am1 = (K) - j) ∧ (j ≤ K) ∧ (∀ i z, i < j → vs[i]? = some z → ¬ (z.pipe = x21.pipe ∧ z.node = x21.node)) ∧ (wl1.heap[b2]? = some (.cells #[.int .i64 m, .slice A n c] 26 (0, 0))) ∧ (wl1.heap[b31]? = some (.cells #[.int .i64 x21.id, .int .i64 x21.pipe, .int .i64 x21.node, .bool x21.shut] 40 (0, 0))) ∧ (Below w.heap.size w wl1)) ((K) - 0) ?_ ?_
    ·exact ⟨0, Kn.of, rfl, (Nat.zero_le _), (fun i z hi => absurd hi (by omega)), x6, x41, c161⟩
    rintro am1 aa1 wl1 K42 h42 ⟨j, ⟨U1, rfl⟩, rfl, hj, hno, x6, x41, c162⟩
    refine wk fun K43 h43 => ?_
    refine wk fun K44 h44 => ?_
    refine Rq 3 ?_
    refine Fv (.int .i64 (j : Int)) ?_
    refine Fv (.int .i64 (K : Int)) ?_
    by_cases q163 : ((j : Int) : Int) < ((K : Int) : Int)
    ·refine Fq (.bool true) (r_lss (m := (j : Int)) (n := (K : Int)) rfl ek ek (dt q163)) ?_
     apply F.es
     apply h44
     refine wp_cond_true ek ?_
     apply wp_skip
     apply h43
     refine wk fun K45 h45 => ?_
     refine wp_block ?_
     refine wk fun K46 h46 => ?_
     refine W.region_sch (row := none) (Sch.of [(0, false), (1, false), (2, false), (3, false), (4, false), (5, false), (6, false), (7, false), (8, false), (9, false), (10, false), (11, false), (12, false), (13, false), (14, false), (15, false), (16, false), (17, false)]) kk kk (fun _ d _ _ _ h => by cases d <;> exact h) kk (fun w164 e165 s166 => ?_)
     refine Fv (.slice A2 n2 c2) ?_
     refine Fv (.int .i64 (j : Int)) ?_
     obtain ⟨x167, hx168⟩ := get_of (zs := vs) (k := j) (by have := hl2; omega)
     obtain ⟨b169, o170, hA171, hb172, hc173, hc174, hc175, hc176⟩ := Rd.elValve hb hx168
     refine Fq (.pointer (some ⟨b169, o170 + j * 4, none⟩)) (r_idx (n := n2) (c := c2) (k := j) rfl ek hA171 kk kk (by have := hl2; omega)) ?_
     refine Fq (.pointer (some ⟨b169, o170 + j * 4 + 1, none⟩)) (r_field (k := 1) rfl ek kk) ?_
     refine Fl (.int .i64 x167.pipe) (sgS (later c162 hc174) (by simp)) ?_
     refine Fq (.pointer (some ⟨b31, 1, none⟩)) (r_field (k := 1) rfl ek kk) ?_
     refine Fl (.int .i64 x21.pipe) (sgS (blk_cell (j := 1) x41 kk) onn) ?_
     by_cases q177 : (x167.pipe : Int) = (x21.pipe : Int)
     ·refine Fq (.bool true) (r_eql (m := x167.pipe) (n := x21.pipe) rfl ek ek (dt q177)) ?_
      refine Fv (.bool true) ?_
      refine Fv (.slice A2 n2 c2) ?_
      refine Fv (.int .i64 (j : Int)) ?_
      refine Fq (.pointer (some ⟨b169, o170 + j * 4, none⟩)) (r_idx (n := n2) (c := c2) (k := j) rfl ek hA171 kk kk (by have := hl2; omega)) ?_
      refine Fq (.pointer (some ⟨b169, o170 + j * 4 + 2, none⟩)) (r_field (k := 2) rfl ek kk) ?_
      refine Fl (.int .i64 x167.node) (sgS (later c162 hc175) (by simp)) ?_
      refine Fq (.pointer (some ⟨b31, 2, none⟩)) (r_field (k := 2) rfl ek kk) ?_
      refine Fl (.int .i64 x21.node) (sgS (blk_cell (j := 2) x41 kk) onn) ?_
      by_cases q178 : (x167.node : Int) = (x21.node : Int)
      ·refine Fq (.bool true) (r_eql (m := x167.node) (n := x21.node) rfl ek ek (dt q178)) ?_
       refine Fq (.bool true) (r_pick (b := true) rfl ek ek) ?_
       apply F.es
       have x6 := Sk s166 x6 onn
       have x41 := Sk s166 x41 onn
       have c179 := (Sb c162 s166 nkk)
       apply h46
       refine wp_cond_true ek ?_
       refine wk fun K47 h47 => ?_
       refine Rq 1 ?_
       refine Fa (.bool false) ?_
       apply F.es
       apply h47
       refine wp_ret ?_
       try simp only [Exit.then, Exit.inBlock]
       refine ret1 (v := .bool false) rfl kk ?_
       have e8 : okV ps vs (K) = false := Bool.eq_false_iff.2 (fun h9 => by
         have h8 := (okV_iff hx22).1 h9
         obtain ⟨⟨hA, hB⟩, hC, hD⟩ := h8
         obtain ⟨hC0, p9, hp9, hC1⟩ := endAt_pos hC
         obtain rfl := Option.some.inj (hp9.symm.trans hx128)
         exact absurd (placed_yes (k := K) (a := x21.pipe) (b := x21.node) hx168 (by omega) q177 q178) (by rw [hD]; simp))
       exact ⟨ret_bool (goodV_bad (k := K) (by omega) e8).symm, c179⟩
      refine Fq (.bool false) (r_eql (m := x167.node) (n := x21.node) rfl ek ek (df q178)) ?_
      refine Fq (.bool false) (r_pick (b := true) rfl ek ek) ?_
      apply F.es
      have x6 := Sk s166 x6 onn
      have x41 := Sk s166 x41 onn
      have c180 := (Sb c162 s166 nkk)
      apply h46
      refine wp_cond_false ek ?_
      apply wp_skip
      apply h45
      refine Rq 3 ?_
      refine Fv (.int .i64 (j : Int)) ?_
      refine Fq (.int .i64 ((j + 1 : Nat) : Int)) (r_add (m := (j : Int)) (n := 1) (z := ((j + 1 : Nat) : Int)) rfl ek ek (by omega) (by omega)) ?_
      refine Fa (.int .i64 ((j + 1 : Nat) : Int)) ?_
      apply F.es
      exact h42 _ _ _ (by omega : ((K) - (j + 1)) < _) ⟨j + 1, Kn.of, rfl, (by omega), (upto_succ (Q := fun z => ¬ (z.pipe = x21.pipe ∧ z.node = x21.node)) hno hx168 (by omega)), x6, x41, c180⟩
     refine Fq (.bool false) (r_eql (m := x167.pipe) (n := x21.pipe) rfl ek ek (df q177)) ?_
     refine Fv (.bool false) ?_
     refine Fs s166 ?_
     refine Fs s166 ?_
     refine Fs s166 ?_
     refine Fs s166 ?_
     refine Fs s166 ?_
     refine Fs s166 ?_
     refine Fs s166 ?_
     refine Fs s166 ?_
     refine Fq (.bool false) (r_pick (b := false) rfl ek ek) ?_
     apply F.es
     have x6 := Sk s166 x6 onn
     have x41 := Sk s166 x41 onn
     have c181 := (Sb c162 s166 nkk)
     apply h46
     refine wp_cond_false ek ?_
     apply wp_skip
     apply h45
     refine Rq 3 ?_
     refine Fv (.int .i64 (j : Int)) ?_
     refine Fq (.int .i64 ((j + 1 : Nat) : Int)) (r_add (m := (j : Int)) (n := 1) (z := ((j + 1 : Nat) : Int)) rfl ek ek (by omega) (by omega)) ?_
     refine Fa (.int .i64 ((j + 1 : Nat) : Int)) ?_
     apply F.es
     exact h42 _ _ _ (by omega : ((K) - (j + 1)) < _) ⟨j + 1, Kn.of, rfl, (by omega), (upto_succ (Q := fun z => ¬ (z.pipe = x21.pipe ∧ z.node = x21.node)) hno hx168 (by omega)), x6, x41, c181⟩
    refine Fq (.bool false) (r_lss (m := (j : Int)) (n := (K : Int)) rfl ek ek (df q163)) ?_
    apply F.es
    apply h44
    refine wp_cond_false ek ?_
    refine wp_exit ?_
    apply h10
    refine Rq 3 ?_
    refine Fv (.int .i64 (K : Int)) ?_
    refine Fq (.int .i64 ((K + 1 : Nat) : Int)) (r_add (m := (K : Int)) (n := 1) (z := ((K + 1 : Nat) : Int)) rfl ek ek (by omega) (by omega)) ?_
    refine Fa (.int .i64 ((K + 1 : Nat) : Int)) ?_
    apply F.es
    exact h7 _ _ _ (by omega : (n2 - (K + 1)) < _) ⟨K + 1, Kn.of, rfl, (by omega), (okVTo_next hok ((okV_iff hx22).2 ⟨⟨inB_iff.1 q54, (by have e0 : K = 0 := (by omega); subst e0; exact above_zero)⟩, endAt_of (by omega) hx128 (by omega), placed_no hno (by omega)⟩)), x6, c162⟩
   rw [q54]
   refine Fq (.bool true) (r_not (b := false) rfl ek rfl) ?_
   refine Fv (.bool true) ?_
   refine Fs s51 ?_
   refine Fs s51 ?_
   refine Fs s51 ?_
   refine Fs s51 ?_
   refine Fs s51 ?_
   refine Fs s51 ?_
   refine Fs s51 ?_
   refine Fs s51 ?_
   refine Fs s51 ?_
   refine Fs s51 ?_
   refine Fs s51 ?_
   refine Fs s51 ?_
   refine Fs s51 ?_
   refine Fq (.bool true) (r_pick (b := true) rfl ek ek) ?_
   refine Fv (.bool true) ?_
   refine Fs s51 ?_
   refine Fs s51 ?_
   refine Fq (.bool true) (r_pick (b := true) rfl ek ek) ?_
   refine Fv (.bool true) ?_
   refine Fs s51 ?_
   refine Fs s51 ?_
   refine Fs s51 ?_
   refine Fs s51 ?_
   refine Fs s51 ?_
   refine Fs s51 ?_
   refine Fs s51 ?_
   refine Fs s51 ?_
   refine Fs s51 ?_
   refine Fs s51 ?_
   refine Fs s51 ?_
   refine Fs s51 ?_
   refine Fs s51 ?_
   refine Fs s51 ?_
   refine Fs s51 ?_
   refine Fs s51 ?_
   refine Fs s51 ?_
   refine Fs s51 ?_
   refine Fs s51 ?_
   refine Fs s51 ?_
   refine Fq (.bool true) (r_pick (b := true) rfl ek ek) ?_
   apply F.es
   have c182 := (Sb c48 s51 nkk)
   apply h14
   refine wp_cond_true ek ?_
   refine wk fun K48 h48 => ?_
   refine Rq 1 ?_
   refine Fa (.bool false) ?_
   apply F.es
   apply h48
   refine wp_ret ?_
   try simp only [Exit.then, Exit.inBlock]
   refine ret1 (v := .bool false) rfl kk ?_
   have e8 : okV ps vs (K) = false := Bool.eq_false_iff.2 (fun h9 => by
     have h8 := (okV_iff hx22).1 h9
     obtain ⟨⟨hA, hB⟩, hC, hD⟩ := h8
     obtain ⟨hC0, p9, hp9, hC1⟩ := endAt_pos hC
     first | omega | (rw [inB_iff.2 hA] at q54; cases q54))
   exact ⟨ret_bool (goodV_bad (k := K) (by omega) e8).symm, c182⟩
  refine Fq (.bool false) (r_lss (m := (K : Int)) (n := (n2 : Int)) rfl ek ek (df q19)) ?_
  apply F.es
  apply h9
  refine wp_cond_false ek ?_
  refine wp_exit ?_
  apply h5
  refine wk fun K49 h49 => ?_
  refine Rq 1 ?_
  refine Fa (.bool true) ?_
  apply F.es
  apply h49
  refine wp_ret ?_
  try simp only [Exit.then]
  refine ret1 (v := .bool true) rfl kk ?_
  exact ⟨ret_bool (goodV_fin q14 (by omega) (by rw [show vs.length = K by omega]; exact hok)).symm, c18⟩
 rw [q14]
 refine Fq (.bool true) (r_not (b := false) rfl ek rfl) ?_
 refine Fv (.bool true) ?_
 refine Fs s13 ?_
 refine Fs s13 ?_
 refine Fs s13 ?_
 refine Fq (.bool true) (r_pick (b := true) rfl ek ek) ?_
 apply F.es
 have c183 := (Sb c9 s13 nkk)
 apply h3
 refine wp_cond_true ek ?_
 refine wk fun K50 h50 => ?_
 refine Rq 1 ?_
 refine Fa (.bool false) ?_
 apply F.es
 apply h50
 refine wp_ret ?_
 try simp only [Exit.then]
 refine ret1 (v := .bool false) rfl kk ?_
 exact ⟨ret_bool (goodV_out (.inl q14)).symm, c183⟩
end Go.Proofs.Ytdbgfejeleafgaa
namespace Go.Proofs.Ytdbgfejeleafgaa
open Go.RowKit
set_option linter.unusedVariables false
structure GoodVal (m : Int) (ps : List Pp) (vs : List Vv) : Prop where
  net : GoodNet m ps
  good : goodN m ps = true
  len : vs.length ≤ 10
  uniq : uniqV vs
  place : ∀ v, v ∈ vs → ∃ (k : Nat) (p : Pp), findL ps v.pipe = (k : Int) ∧ k < ps.length ∧ ps[k]? = some p ∧ (p.fr = v.node ∨ p.to = v.node)
  ids : ∀ v, v ∈ vs → 1 ≤ v.id ∧ v.id ≤ 99
  ok : okVTo ps vs vs.length = true
theorem goodV_of {m : Int} {ps : List Pp} {vs : List Vv} (h : goodV m ps vs = true) : GoodVal m ps vs := by
  have h0 := h
  unfold goodV at h
  simp only [Bool.and_eq_true, decide_eq_true_iff] at h
  obtain ⟨h1, h2, h3⟩ := h
  have hat : ∀ i v, vs[i]? = some v → ((1 ≤ v.id ∧ v.id ≤ 99) ∧ above vs i v = true) ∧ endAt ps (findL ps v.pipe) v.node = true ∧ placed (vs.take i) v.pipe v.node = false := fun i v hv =>
    (okV_iff hv).1 (okVTo_at h3 (List.getElem?_eq_some_iff.1 hv).1)
  have hone : ∀ i j (u v : Vv), i < j → vs[i]? = some u → vs[j]? = some v → u.pipe = v.pipe → u.node = v.node → False := fun i j u v hij hu hv e1 e2 => by
    have := (hat j v hv).2.2
    rw [placed_yes hu hij e1 e2] at this; cases this
  refine ⟨good_of h1, h1, h2, fun u v hu hv e1 e2 => ?_, fun v hv => ?_, fun v hv => ?_, h3⟩
  · obtain ⟨i, hi, eu⟩ := List.getElem_of_mem hu
    obtain ⟨j, hj, ev⟩ := List.getElem_of_mem hv
    have hu' : vs[i]? = some u := by rw [List.getElem?_eq_getElem hi, eu]
    have hv' : vs[j]? = some v := by rw [List.getElem?_eq_getElem hj, ev]
    rcases Nat.lt_trichotomy i j with h | h | h
    · exact (hone i j u v h hu' hv' e1 e2).elim
    · subst h; rw [hu'] at hv'; cases hv'; rfl
    · exact (hone j i v u h hv' hu' e1.symm e2.symm).elim
  · obtain ⟨j, hj, ev⟩ := List.getElem_of_mem hv
    obtain ⟨h0, p, hp, he⟩ := endAt_pos (hat j v (by rw [List.getElem?_eq_getElem hj, ev])).2.1
    exact ⟨(findL ps v.pipe).toNat, p, by omega, (List.getElem?_eq_some_iff.1 hp).1, hp, he⟩
  · obtain ⟨j, hj, ev⟩ := List.getElem_of_mem hv
    exact (hat j v (by rw [List.getElem?_eq_getElem hj, ev])).1.1
end Go.Proofs.Ytdbgfejeleafgaa
namespace Go.Proofs.Ytdbgfejeleafgaa
open Go.RowKit
set_option linter.unusedVariables false
set_option linter.unusedSimpArgs false
theorem flatV_take {vs : List Vv} : ∀ k, (valvesV vs).take (k * 4) = valvesV (vs.take k) := by
  intro k
  induction vs generalizing k with
  | nil => simp [valvesV]
  | cons p ps ih =>
    cases k with
    | zero => simp [valvesV]
    | succ k => simp only [valvesV, List.flatMap_cons, List.take_succ_cons] at ih ⊢; rw [show (k + 1) * 4 = k * 4 + 4 by omega]; simp [Vv.vals, ih]
theorem Rd.toV {w : World} {A : Option Addr} {n k : Nat} {vs : List Vv} (h : Rd w 4 A n (valvesV vs)) (hk : k ≤ n) : Rd w 4 A k (valvesV (vs.take k)) := by
  have := h.to hk; rwa [flatV_take] at this
theorem other_zero {p : Pp} {u : Int} (h1 : 1 ≤ p.fr) (h2 : 1 ≤ p.to) : otherOf p u = 0 ↔ ¬ (p.fr = u ∨ p.to = u) := by
  rw [← other_pos h1 h2]
  unfold otherOf
  split
  · omega
  · split <;> omega
set_option maxRecDepth 100000 in
set_option maxHeartbeats 8000000 in
theorem IsValidValves_any (m : Int) (A : Option Addr) (n c : Nat) (ps : List Pp) (A2 : Option Addr) (n2 c2 : Nat) (vs : List Vv) (w : World) (ha : Rd w 4 A n (pipesV ps)) (hb : Rd w 4 A2 n2 (valvesV vs)) (hn : n ≤ 1048576) (hn2 : n2 ≤ 1048576) (hfm2 : Fm A2 n2 c2) :
    Calls Try.prog 13 #[.agg #[.int .i64 m, .slice A n c], .slice A2 n2 c2] w fun e w' => e = .returned (.bool (goodV m ps vs)) ∧ Below w.heap.size w w' := by
 have hl := rd_pipes_len ha
 have hl2 := rd_valves_len hb
 go_enter Try.func13, Try.ntmps13
 refine F.begin 72 [(0, .agg #[.int .i64 m, .slice A n c]), (1, .slice A2 n2 c2)] (fun U0 => ?_)
 refine wk fun K1 h1 => ?_
 refine W.region_plain (row := none) [(0, true), (1, false)] kk ?_
 have s1 := SG.self w none
 refine W.sn (fun b => .pointer (some ⟨b, 0, none⟩)) #[.int .i64 m, .slice A n c] 26 s1 rfl kk rfl (fun _ => by kernel_rfl) (fun b2 w3 hb4 k5 x6 s7 => ?_)
 apply F.nx
 have lo8 : w.heap.size ≤ b2 := Nl ((Sb (Below.refl _ _) s1 nkk)).size (Nat.le_of_eq hb4)
 refine Fa (.bool false) ?_
 apply F.es
 have c9 := (Sb (Below.refl _ _) s7 nkk)
 apply h1
 refine wk fun K2 h2 => ?_
 refine wk fun K3 h3 => ?_
 refine W.region_plain (row := none) [(0, false), (1, true), (2, false), (3, false), (4, false), (5, false), (6, false), (7, false)] kk ?_
 have s10 := SG.self w3 none
 refine Fq (.agg #[.int .i64 m, .slice A n c]) (r_load2 rfl ek kk kk (sgS (blk_cell (j := 0) x6 kk) onn) (sgS (blk_cell (j := 1) x6 kk) onn)) ?_
 refine Fc [.agg #[.int .i64 m, .slice A n c]] (IsValid_any m A n c ps _ (Rk ha (Sb c9 s10 nkk)) (by omega)) ?_
 rintro e w12 ⟨rfl, b11⟩
 have s13 := SG.of_below s10 b11
 refine ⟨_, rfl, s13, ?_⟩
 apply F.nx
 rcases Bool.eq_false_or_eq_true (goodN m ps) with q14 | q14
 ·rw [q14]
  refine Fq (.bool false) (r_not (b := true) rfl ek rfl) ?_
  refine Fv (.bool false) ?_
  refine Fv (.slice A2 n2 c2) ?_
  refine Fq (.int .i64 (n2 : Int)) (r_len (A := A2) (n := n2) (c := c2) rfl ek kk) ?_
  by_cases q15 : ((n2 : Int) : Int) > (10 : Int)
  ·refine Fq (.bool true) (r_gtr (m := (n2 : Int)) (n := 10) rfl ek ek (dt q15)) ?_
   refine Fq (.bool true) (r_pick (b := false) rfl ek ek) ?_
   apply F.es
   have x6 := Sk s13 x6 onn
   have c16 := (Sb c9 s13 nkk)
   apply h3
   refine wp_cond_true ek ?_
   refine wk fun K4 h4 => ?_
   refine Rq 1 ?_
   refine Fa (.bool false) ?_
   apply F.es
   apply h4
   refine wp_ret ?_
   try simp only [Exit.then]
   refine ret1 (v := .bool false) rfl kk ?_
   exact ⟨ret_bool (goodV_out (.inr (by omega))).symm, c16⟩
  refine Fq (.bool false) (r_gtr (m := (n2 : Int)) (n := 10) rfl ek ek (df q15)) ?_
  refine Fq (.bool false) (r_pick (b := false) rfl ek ek) ?_
  apply F.es
  have x6 := Sk s13 x6 onn
  have c17 := (Sb c9 s13 nkk)
  apply h3
  refine wp_cond_false ek ?_
  apply wp_skip
  apply h2
  refine wk fun K5 h5 => ?_
  refine wk fun K6 h6 => ?_
  refine Rq 3 ?_
  refine Fv (.slice A2 n2 c2) ?_
  refine Fq (.int .i64 (n2 : Int)) (r_len (A := A2) (n := n2) (c := c2) rfl ek kk) ?_
  refine Fv (.int .i64 0) ?_
  apply F.es
  apply h6
  refine wp_block ?_
  refine loopK (fun am0 aa0 wl0 => ∃ (K : Nat) , Kn aa0 [(0, .agg #[.int .i64 m, .slice A n c]), (1, .slice A2 n2 c2), (2, .pointer (some ⟨b2, 0, none⟩)), (4, .bool false), (15, .bool false), (16, .slice A2 n2 c2), (17, .int .i64 (n2 : Int)), (18, .int .i64 (K : Int))] 72 ∧ (am0 = n2 - K) ∧ (K ≤ n2) ∧ (okVTo ps vs K = true) ∧ (wl0.heap[b2]? = some (.cells #[.int .i64 m, .slice A n c] 26 (0, 0))) ∧ (Below w.heap.size w wl0)) (n2 - 0) ?_ ?_
  ·exact ⟨0, Kn.of, rfl, (Nat.zero_le _), rfl, x6, c17⟩
  rintro am0 aa0 wl0 K7 h7 ⟨K, ⟨U0, rfl⟩, rfl, hk, hok, x6, c18⟩
  refine wk fun K8 h8 => ?_
  refine Rq 1 ?_
  by_cases q19 : ((K : Int) : Int) < ((n2 : Int) : Int)
  ·refine Fq (.bool true) (r_lss (m := (K : Int)) (n := (n2 : Int)) rfl ek ek (dt q19)) ?_
   apply F.es
   apply h8
   refine wk fun K9 h9 => ?_
   refine wp_cond_true ek ?_
   apply wp_skip
   apply h9
   refine wk fun K10 h10 => ?_
   refine wp_block ?_
   refine wk fun K11 h11 => ?_
   refine W.region_plain (row := none) [(0, false), (1, false), (2, false), (3, true), (4, false), (5, true)] kk ?_
   have s20 := SG.self wl0 none
   refine Fv (.int .i64 (K : Int)) ?_
   obtain ⟨x21, hx22⟩ := get_of (zs := vs) (k := K) (by have := hl2; omega)
   obtain ⟨b23, o24, hA25, hb26, hc27, hc28, hc29, hc30⟩ := Rd.elValve hb hx22
   refine Fq (.pointer (some ⟨b23, o24 + K * 4, none⟩)) (r_idx (n := n2) (c := c2) (k := K) rfl ek hA25 kk kk (by have := hl2; omega)) ?_
   refine Fq (.agg #[.int .i64 x21.id, .int .i64 x21.pipe, .int .i64 x21.node, .bool x21.shut]) (r_load4 rfl ek kk kk (sgS (later c18 hc27) (by simp)) (sgS (later c18 hc28) (by simp)) (sgS (later c18 hc29) (by simp)) (sgS (later c18 hc30) (by simp))) ?_
   refine W.sn (fun b => .pointer (some ⟨b, 0, none⟩)) #[.int .i64 0, .int .i64 0, .int .i64 0, .bool false] 40 s20 rfl kk rfl (fun _ => by kernel_rfl) (fun b31 w32 hb33 k34 x35 s36 => ?_)
   apply F.nx
   have lo37 : w.heap.size ≤ b31 := Nl ((Sb c18 s20 nkk)).size (Nat.le_of_eq hb33)
   refine Fa (.int .i64 (K : Int)) ?_
   refine W.ss (v := .agg #[.int .i64 x21.id, .int .i64 x21.pipe, .int .i64 x21.node, .bool x21.shut]) (j := 0) (news := [.int .i64 x21.id, .int .i64 x21.pipe, .int .i64 x21.node, .bool x21.shut]) (cs' := #[.int .i64 x21.id, .int .i64 x21.pipe, .int .i64 x21.node, .bool x21.shut]) s36 rfl kk rfl rfl kk kk x35 kk kk (by simp) kk kk (.inr (Nl (s20).size (Nat.le_of_eq hb33))) (fun w39 g40 x41 s42 => ?_)
   apply F.es
   have x6 := Sk s42 x6 onn
   have c43 := (Sb c18 s42 nkk)
   apply h11
   refine wk fun K12 h12 => ?_
   refine W.region_plain (row := none) [(0, false), (1, false), (2, false), (3, true), (4, false)] kk ?_
   have s44 := SG.self w39 none
   refine Fq (.agg #[.int .i64 m, .slice A n c]) (r_load2 rfl ek kk kk (sgS (blk_cell (j := 0) x6 kk) onn) (sgS (blk_cell (j := 1) x6 kk) onn)) ?_
   refine Fq (.pointer (some ⟨b31, 1, none⟩)) (r_field (k := 1) rfl ek kk) ?_
   refine Fl (.int .i64 x21.pipe) (sgS (blk_cell (j := 1) x41 kk) onn) ?_
   refine Fc [.agg #[.int .i64 m, .slice A n c], .int .i64 x21.pipe] (pipeIndex_any m A n c ps x21.pipe _ (Rk ha (Sb c43 s44 nkk)) (by omega)) ?_
   rintro e w46 ⟨rfl, b45⟩
   have s47 := SG.of_below s44 b45
   refine ⟨_, rfl, s47, ?_⟩
   apply F.nx
   refine Fa (.int .i64 (findL ps x21.pipe)) ?_
   apply F.es
   have x6 := Sk s47 x6 onn
   have x41 := Sk s47 x41 onn
   have c48 := (Sb c43 s47 nkk)
   apply h12
   refine wk fun K13 h13 => ?_
   refine wk fun K14 h14 => ?_
   refine W.region_sch (row := none) (Sch.of [(0, false), (1, false), (2, true), (3, false), (4, false), (5, false), (6, false), (7, false), (8, false), (9, false), (10, false), (11, false), (12, false), (13, false), (14, false), (15, false), (16, false), (17, false), (18, false), (19, false), (20, false), (21, false), (22, false), (23, false), (24, false), (25, false), (26, false), (27, false), (28, false), (29, false), (30, false), (31, false), (32, false), (33, false), (34, false), (35, false), (36, true), (37, false), (38, false)]) kk kk (fun _ d _ _ _ h => by cases d <;> exact h) kk (fun w49 e50 s51 => ?_)
   refine Fq (.pointer (some ⟨b31, 0, none⟩)) (r_field0 rfl ek kk) ?_
   refine Fl (.int .i64 x21.id) (sgS (blk_cell (j := 0) x41 kk) onn) ?_
   refine Fc [.int .i64 x21.id, .int .i64 1, .int .i64 99] (inside_any x21.id 1 99 _) ?_
   rintro e w' ⟨rfl, rfl⟩
   refine ⟨_, rfl, s51, ?_⟩
   apply F.nx
   rcases Bool.eq_false_or_eq_true (inB x21.id 1 99) with q54 | q54
   ·rw [q54]
    refine Fq (.bool false) (r_not (b := true) rfl ek rfl) ?_
    refine Fv (.bool false) ?_
    refine Fv (.int .i64 (K : Int)) ?_
    by_cases q55 : ((K : Int) : Int) > (0 : Int)
    ·obtain ⟨k, rfl⟩ : ∃ k, K = k + 1 := ⟨K - 1, by omega⟩
     refine Fq (.bool true) (r_gtr (m := (((k + 1) : Nat) : Int)) (n := 0) rfl ek ek (dt q55)) ?_
     refine Fv (.bool true) ?_
     refine Fv (.slice A2 n2 c2) ?_
     refine Fv (.int .i64 (((k + 1) : Nat) : Int)) ?_
     refine Fq (.int .i64 (k : Int)) (r_sub (m := (((k + 1) : Nat) : Int)) (n := 1) (z := (k : Int)) rfl ek ek (by omega) (by omega)) ?_
     obtain ⟨x56, hx57⟩ := get_of (zs := vs) (k := k) (by have := hl2; omega)
     obtain ⟨b58, o59, hA60, hb61, hc62, hc63, hc64, hc65⟩ := Rd.elValve hb hx57
     refine Fq (.pointer (some ⟨b58, o59 + k * 4, none⟩)) (r_idx (n := n2) (c := c2) (k := k) rfl ek hA60 kk kk (by have := hl2; omega)) ?_
     refine Fq (.pointer (some ⟨b58, o59 + k * 4, none⟩)) (r_field0 rfl ek kk) ?_
     refine Fl (.int .i64 x56.id) (sgS (later c48 hc62) (by simp)) ?_
     refine Fq (.pointer (some ⟨b31, 0, none⟩)) (r_field0 rfl ek kk) ?_
     refine Fl (.int .i64 x21.id) (sgS (blk_cell (j := 0) x41 kk) onn) ?_
     by_cases q66 : (x56.id : Int) ≥ (x21.id : Int)
     ·refine Fq (.bool true) (r_geq (m := x56.id) (n := x21.id) rfl ek ek (dt q66)) ?_
      refine Fq (.bool true) (r_pick (b := true) rfl ek ek) ?_
      refine Fq (.bool true) (r_pick (b := false) rfl ek ek) ?_
      refine Fv (.bool true) ?_
      refine Fs s51 ?_
      refine Fs s51 ?_
      refine Fq (.bool true) (r_pick (b := true) rfl ek ek) ?_
      refine Fv (.bool true) ?_
      refine Fs s51 ?_
      refine Fs s51 ?_
      refine Fs s51 ?_
      refine Fq (.bool true) (r_pick (b := true) rfl ek ek) ?_
      refine Fv (.bool true) ?_
      refine Fs s51 ?_
      refine Fs s51 ?_
      refine Fs s51 ?_
      refine Fs s51 ?_
      refine Fs s51 ?_
      refine Fs s51 ?_
      refine Fs s51 ?_
      refine Fs s51 ?_
      refine Fs s51 ?_
      refine Fq (.bool true) (r_pick (b := true) rfl ek ek) ?_
      apply F.es
      have x6 := Sk s51 x6 onn
      have x41 := Sk s51 x41 onn
      have c67 := (Sb c48 s51 nkk)
      apply h14
      refine wp_cond_true ek ?_
      refine wk fun K15 h15 => ?_
      refine Rq 1 ?_
      refine Fa (.bool false) ?_
      apply F.es
      apply h15
      refine wp_ret ?_
      try simp only [Exit.then, Exit.inBlock]
      refine ret1 (v := .bool false) rfl kk ?_
      have e8 : okV ps vs (k + 1) = false := Bool.eq_false_iff.2 (fun h9 => by
        have h8 := (okV_iff hx22).1 h9
        obtain ⟨⟨hA, hB⟩, hC, hD⟩ := h8
        obtain ⟨hC0, p9, hp9, hC1⟩ := endAt_pos hC
        have hg9 := (good_of q14).at hp9
        have h7 := (other_zero (u := x21.node) hg9.2.1.1 hg9.2.2.1.1)
        have hB' := of_decide_eq_true ((above_next hx57).symm.trans hB)
        first | omega | (rw [inB_iff.2 hA] at q54; cases q54))
      exact ⟨ret_bool (goodV_bad (k := k + 1) (by omega) e8).symm, c67⟩
     refine Fq (.bool false) (r_geq (m := x56.id) (n := x21.id) rfl ek ek (df q66)) ?_
     refine Fq (.bool false) (r_pick (b := true) rfl ek ek) ?_
     refine Fq (.bool false) (r_pick (b := false) rfl ek ek) ?_
     refine Fv (.bool false) ?_
     refine Fv (.int .i64 (findL ps x21.pipe)) ?_
     by_cases q68 : (findL ps x21.pipe : Int) < (0 : Int)
     ·refine Fq (.bool true) (r_lss (m := findL ps x21.pipe) (n := 0) rfl ek ek (dt q68)) ?_
      refine Fq (.bool true) (r_pick (b := false) rfl ek ek) ?_
      refine Fv (.bool true) ?_
      refine Fs s51 ?_
      refine Fs s51 ?_
      refine Fs s51 ?_
      refine Fq (.bool true) (r_pick (b := true) rfl ek ek) ?_
      refine Fv (.bool true) ?_
      refine Fs s51 ?_
      refine Fs s51 ?_
      refine Fs s51 ?_
      refine Fs s51 ?_
      refine Fs s51 ?_
      refine Fs s51 ?_
      refine Fs s51 ?_
      refine Fs s51 ?_
      refine Fs s51 ?_
      refine Fq (.bool true) (r_pick (b := true) rfl ek ek) ?_
      apply F.es
      have x6 := Sk s51 x6 onn
      have x41 := Sk s51 x41 onn
      have c69 := (Sb c48 s51 nkk)
      apply h14
      refine wp_cond_true ek ?_
      refine wk fun K16 h16 => ?_
      refine Rq 1 ?_
      refine Fa (.bool false) ?_
      apply F.es
      apply h16
      refine wp_ret ?_
      try simp only [Exit.then, Exit.inBlock]
      refine ret1 (v := .bool false) rfl kk ?_
      have e8 : okV ps vs (k + 1) = false := Bool.eq_false_iff.2 (fun h9 => by
        have h8 := (okV_iff hx22).1 h9
        obtain ⟨⟨hA, hB⟩, hC, hD⟩ := h8
        obtain ⟨hC0, p9, hp9, hC1⟩ := endAt_pos hC
        have hg9 := (good_of q14).at hp9
        have h7 := (other_zero (u := x21.node) hg9.2.1.1 hg9.2.2.1.1)
        have hB' := of_decide_eq_true ((above_next hx57).symm.trans hB)
        first | omega | (rw [inB_iff.2 hA] at q54; cases q54))
      exact ⟨ret_bool (goodV_bad (k := k + 1) (by omega) e8).symm, c69⟩
     refine Fq (.bool false) (r_lss (m := findL ps x21.pipe) (n := 0) rfl ek ek (df q68)) ?_
     refine Fq (.bool false) (r_pick (b := false) rfl ek ek) ?_
     refine Fv (.bool false) ?_
     refine Fq (.pointer (some ⟨b31, 2, none⟩)) (r_field (k := 2) rfl ek kk) ?_
     refine Fl (.int .i64 x21.node) (sgS (blk_cell (j := 2) x41 kk) onn) ?_
     by_cases q70 : (x21.node : Int) < (1 : Int)
     ·refine Fq (.bool true) (r_lss (m := x21.node) (n := 1) rfl ek ek (dt q70)) ?_
      refine Fq (.bool true) (r_pick (b := false) rfl ek ek) ?_
      refine Fv (.bool true) ?_
      refine Fs s51 ?_
      refine Fs s51 ?_
      refine Fs s51 ?_
      refine Fs s51 ?_
      refine Fs s51 ?_
      refine Fs s51 ?_
      refine Fs s51 ?_
      refine Fs s51 ?_
      refine Fs s51 ?_
      refine Fq (.bool true) (r_pick (b := true) rfl ek ek) ?_
      apply F.es
      have x6 := Sk s51 x6 onn
      have x41 := Sk s51 x41 onn
      have c71 := (Sb c48 s51 nkk)
      apply h14
      refine wp_cond_true ek ?_
      refine wk fun K17 h17 => ?_
      refine Rq 1 ?_
      refine Fa (.bool false) ?_
      apply F.es
      apply h17
      refine wp_ret ?_
      try simp only [Exit.then, Exit.inBlock]
      refine ret1 (v := .bool false) rfl kk ?_
      have e8 : okV ps vs (k + 1) = false := Bool.eq_false_iff.2 (fun h9 => by
        have h8 := (okV_iff hx22).1 h9
        obtain ⟨⟨hA, hB⟩, hC, hD⟩ := h8
        obtain ⟨hC0, p9, hp9, hC1⟩ := endAt_pos hC
        have hg9 := (good_of q14).at hp9
        have h7 := (other_zero (u := x21.node) hg9.2.1.1 hg9.2.2.1.1)
        have hB' := of_decide_eq_true ((above_next hx57).symm.trans hB)
        first | omega | (rw [inB_iff.2 hA] at q54; cases q54))
      exact ⟨ret_bool (goodV_bad (k := k + 1) (by omega) e8).symm, c71⟩
     refine Fq (.bool false) (r_lss (m := x21.node) (n := 1) rfl ek ek (df q70)) ?_
     refine Fq (.bool false) (r_pick (b := false) rfl ek ek) ?_
     refine Fv (.bool false) ?_
     refine Fq (.pointer (some ⟨b2, 1, none⟩)) (r_field (k := 1) rfl ek kk) ?_
     refine Fl (.slice A n c) (sgS (blk_cell (j := 1) x6 kk) onn) ?_
     refine Fv (.int .i64 (findL ps x21.pipe)) ?_
     have hfl := findL_lt ps x21.pipe
     obtain ⟨pz, hpz⟩ := get_of (zs := ps) (k := (findL ps x21.pipe).toNat) (by omega)
     have hgz := (good_of q14).at hpz
     obtain ⟨b72, o73, hA74, hb75, hc76, hc77, hc78, hc79⟩ := Rd.elPipe ha hpz
     refine Fq (.pointer (some ⟨b72, o73 + ((findL ps x21.pipe).toNat) * 4, none⟩)) (r_idx (n := n) (c := c) (k := (findL ps x21.pipe).toNat) rfl ek hA74 (evk (z := findL ps x21.pipe) kk (by omega)) kk (by have := hl; omega)) ?_
     refine Fq (.agg #[.int .i64 pz.id, .int .i64 pz.fr, .int .i64 pz.to, .int .i64 pz.sz]) (r_load4 rfl ek kk kk (sgS (later c48 hc76) (by simp)) (sgS (later c48 hc77) (by simp)) (sgS (later c48 hc78) (by simp)) (sgS (later c48 hc79) (by simp))) ?_
     refine Fq (.pointer (some ⟨b31, 2, none⟩)) (r_field (k := 2) rfl ek kk) ?_
     refine Fl (.int .i64 x21.node) (sgS (blk_cell (j := 2) x41 kk) onn) ?_
     refine Fc [.agg #[.int .i64 pz.id, .int .i64 pz.fr, .int .i64 pz.to, .int .i64 pz.sz], .int .i64 x21.node] (other_any pz x21.node _) ?_
     rintro e w81 ⟨rfl, b80⟩
     have s82 := SG.of_below s51 b80
     refine ⟨_, rfl, s82, ?_⟩
     apply F.nx
     by_cases q83 : (otherOf pz x21.node : Int) = (0 : Int)
     ·refine Fq (.bool true) (r_eql (m := otherOf pz x21.node) (n := 0) rfl ek ek (dt q83)) ?_
      refine Fq (.bool true) (r_pick (b := false) rfl ek ek) ?_
      apply F.es
      have x6 := Sk s82 x6 onn
      have x41 := Sk s82 x41 onn
      have c84 := (Sb c48 s82 nkk)
      apply h14
      refine wp_cond_true ek ?_
      refine wk fun K18 h18 => ?_
      refine Rq 1 ?_
      refine Fa (.bool false) ?_
      apply F.es
      apply h18
      refine wp_ret ?_
      try simp only [Exit.then, Exit.inBlock]
      refine ret1 (v := .bool false) rfl kk ?_
      have e8 : okV ps vs (k + 1) = false := Bool.eq_false_iff.2 (fun h9 => by
        have h8 := (okV_iff hx22).1 h9
        obtain ⟨⟨hA, hB⟩, hC, hD⟩ := h8
        obtain ⟨hC0, p9, hp9, hC1⟩ := endAt_pos hC
        have hg9 := (good_of q14).at hp9
        have h7 := (other_zero (u := x21.node) hg9.2.1.1 hg9.2.2.1.1)
        have hB' := of_decide_eq_true ((above_next hx57).symm.trans hB)
        obtain rfl := Option.some.inj (hp9.symm.trans hpz)
        first | omega | (rw [inB_iff.2 hA] at q54; cases q54))
      exact ⟨ret_bool (goodV_bad (k := k + 1) (by omega) e8).symm, c84⟩
     refine Fq (.bool false) (r_eql (m := otherOf pz x21.node) (n := 0) rfl ek ek (df q83)) ?_
     refine Fq (.bool false) (r_pick (b := false) rfl ek ek) ?_
     apply F.es
     have x6 := Sk s82 x6 onn
     have x41 := Sk s82 x41 onn
     have c85 := (Sb c48 s82 nkk)
     apply h14
     refine wp_cond_false ek ?_
     apply wp_skip
     apply h13
     refine wk fun K19 h19 => ?_
     refine W.region_plain (row := none) [(0, false), (1, false), (2, false), (3, false), (4, true)] kk ?_
     have s86 := SG.self w81 none
     refine Fv (.slice A2 n2 c2) ?_
     refine Fv (.int .i64 (((k + 1) : Nat) : Int)) ?_
     refine Fq (.slice A2 (k + 1) c2) (r_sliceTo (A := A2) (n := n2) (c := c2) (k := (k + 1)) (size := 4) rfl ek ek kk (by have := (hfm2).le; omega)) ?_
     refine Fq (.func (.func 83) #[] #[.pointer (some ⟨b31, 0, none⟩)]) (r_makeFunc (vs := [.pointer (some ⟨b31, 0, none⟩)]) rfl kk) ?_
     refine Fc [.slice A2 (k + 1) c2, .func (.func 83) #[] #[.pointer (some ⟨b31, 0, none⟩)]] (anyV_any A2 (k + 1) c2 (vs.take (k + 1)) 83 #[.pointer (some ⟨b31, 0, none⟩)] (fun v => decide (v.pipe = x21.pipe) && decide (v.node = x21.node)) _ (Rd.toV (Rk hb (Sb c85 s86 nkk)) (by omega)) (by omega) kk (fun W v hW => validF_any v x21 b31 W ((hW.block _ (blk_lt x41)).trans x41))) ?_
     rintro e w88 ⟨rfl, b87⟩
     have s89 := SG.of_below s86 b87
     refine ⟨_, rfl, s89, ?_⟩
     apply F.nx
     rcases Bool.eq_false_or_eq_true ((vs.take (k + 1)).any (fun v => decide (v.pipe = x21.pipe) && decide (v.node = x21.node))) with q90 | q90
     ·rw [q90]
      apply F.es
      have x6 := Sk s89 x6 onn
      have x41 := Sk s89 x41 onn
      have c91 := (Sb c85 s89 nkk)
      apply h19
      refine wp_cond_true ek ?_
      refine wk fun K20 h20 => ?_
      refine Rq 1 ?_
      refine Fa (.bool false) ?_
      apply F.es
      apply h20
      refine wp_ret ?_
      try simp only [Exit.then, Exit.inBlock]
      refine ret1 (v := .bool false) rfl kk ?_
      have e8 : okV ps vs (k + 1) = false := Bool.eq_false_iff.2 (fun h9 => by
        have h8 := (okV_iff hx22).1 h9
        obtain ⟨⟨hA, hB⟩, hC, hD⟩ := h8
        obtain ⟨hC0, p9, hp9, hC1⟩ := endAt_pos hC
        have hg9 := (good_of q14).at hp9
        have h7 := (other_zero (u := x21.node) hg9.2.1.1 hg9.2.2.1.1)
        have hB' := of_decide_eq_true ((above_next hx57).symm.trans hB)
        obtain rfl := Option.some.inj (hp9.symm.trans hpz)
        exact absurd (show placed (vs.take (k + 1)) x21.pipe x21.node = true from q90) (by rw [hD]; simp))
      exact ⟨ret_bool (goodV_bad (k := k + 1) (by omega) e8).symm, c91⟩
     rw [q90]
     apply F.es
     have x6 := Sk s89 x6 onn
     have x41 := Sk s89 x41 onn
     have c92 := (Sb c85 s89 nkk)
     apply h19
     refine wp_cond_false ek ?_
     apply wp_skip
     apply h10
     refine Rq 2 ?_
     refine Fq (.int .i64 (((k + 1) + 1 : Nat) : Int)) (r_add (m := (((k + 1) : Nat) : Int)) (n := 1) (z := (((k + 1) + 1 : Nat) : Int)) rfl ek ek (by omega) (by omega)) ?_
     refine Fv (.int .i64 (((k + 1) + 1 : Nat) : Int)) ?_
     apply F.es
     exact h7 _ _ _ (by omega : (n2 - (k + 1 + 1)) < _) ⟨k + 1 + 1, Kn.of, rfl, (by omega), (okVTo_next hok ((okV_iff hx22).2 ⟨⟨inB_iff.1 q54, (by rw [above_next hx57]; exact decide_eq_true (by omega))⟩, endAt_of (by omega) hpz (by have h9 := (other_zero (u := x21.node) hgz.2.1.1 hgz.2.2.1.1); omega), q90⟩)), x6, c92⟩
    refine Fq (.bool false) (r_gtr (m := (K : Int)) (n := 0) rfl ek ek (df q55)) ?_
    refine Fv (.bool false) ?_
    refine Fs s51 ?_
    refine Fs s51 ?_
    refine Fs s51 ?_
    refine Fs s51 ?_
    refine Fs s51 ?_
    refine Fs s51 ?_
    refine Fs s51 ?_
    refine Fs s51 ?_
    refine Fs s51 ?_
    refine Fq (.bool false) (r_pick (b := false) rfl ek ek) ?_
    refine Fq (.bool false) (r_pick (b := false) rfl ek ek) ?_
    refine Fv (.bool false) ?_
    refine Fv (.int .i64 (findL ps x21.pipe)) ?_
    by_cases q93 : (findL ps x21.pipe : Int) < (0 : Int)
    ·refine Fq (.bool true) (r_lss (m := findL ps x21.pipe) (n := 0) rfl ek ek (dt q93)) ?_
     refine Fq (.bool true) (r_pick (b := false) rfl ek ek) ?_
     refine Fv (.bool true) ?_
     refine Fs s51 ?_
     refine Fs s51 ?_
     refine Fs s51 ?_
     refine Fq (.bool true) (r_pick (b := true) rfl ek ek) ?_
     refine Fv (.bool true) ?_
     refine Fs s51 ?_
     refine Fs s51 ?_
     refine Fs s51 ?_
     refine Fs s51 ?_
     refine Fs s51 ?_
     refine Fs s51 ?_
     refine Fs s51 ?_
     refine Fs s51 ?_
     refine Fs s51 ?_
     refine Fq (.bool true) (r_pick (b := true) rfl ek ek) ?_
     apply F.es
     have x6 := Sk s51 x6 onn
     have x41 := Sk s51 x41 onn
     have c94 := (Sb c48 s51 nkk)
     apply h14
     refine wp_cond_true ek ?_
     refine wk fun K21 h21 => ?_
     refine Rq 1 ?_
     refine Fa (.bool false) ?_
     apply F.es
     apply h21
     refine wp_ret ?_
     try simp only [Exit.then, Exit.inBlock]
     refine ret1 (v := .bool false) rfl kk ?_
     have e8 : okV ps vs (K) = false := Bool.eq_false_iff.2 (fun h9 => by
       have h8 := (okV_iff hx22).1 h9
       obtain ⟨⟨hA, hB⟩, hC, hD⟩ := h8
       obtain ⟨hC0, p9, hp9, hC1⟩ := endAt_pos hC
       have hg9 := (good_of q14).at hp9
       have h7 := (other_zero (u := x21.node) hg9.2.1.1 hg9.2.2.1.1)
       first | omega | (rw [inB_iff.2 hA] at q54; cases q54))
     exact ⟨ret_bool (goodV_bad (k := K) (by omega) e8).symm, c94⟩
    refine Fq (.bool false) (r_lss (m := findL ps x21.pipe) (n := 0) rfl ek ek (df q93)) ?_
    refine Fq (.bool false) (r_pick (b := false) rfl ek ek) ?_
    refine Fv (.bool false) ?_
    refine Fq (.pointer (some ⟨b31, 2, none⟩)) (r_field (k := 2) rfl ek kk) ?_
    refine Fl (.int .i64 x21.node) (sgS (blk_cell (j := 2) x41 kk) onn) ?_
    by_cases q95 : (x21.node : Int) < (1 : Int)
    ·refine Fq (.bool true) (r_lss (m := x21.node) (n := 1) rfl ek ek (dt q95)) ?_
     refine Fq (.bool true) (r_pick (b := false) rfl ek ek) ?_
     refine Fv (.bool true) ?_
     refine Fs s51 ?_
     refine Fs s51 ?_
     refine Fs s51 ?_
     refine Fs s51 ?_
     refine Fs s51 ?_
     refine Fs s51 ?_
     refine Fs s51 ?_
     refine Fs s51 ?_
     refine Fs s51 ?_
     refine Fq (.bool true) (r_pick (b := true) rfl ek ek) ?_
     apply F.es
     have x6 := Sk s51 x6 onn
     have x41 := Sk s51 x41 onn
     have c96 := (Sb c48 s51 nkk)
     apply h14
     refine wp_cond_true ek ?_
     refine wk fun K22 h22 => ?_
     refine Rq 1 ?_
     refine Fa (.bool false) ?_
     apply F.es
     apply h22
     refine wp_ret ?_
     try simp only [Exit.then, Exit.inBlock]
     refine ret1 (v := .bool false) rfl kk ?_
     have e8 : okV ps vs (K) = false := Bool.eq_false_iff.2 (fun h9 => by
       have h8 := (okV_iff hx22).1 h9
       obtain ⟨⟨hA, hB⟩, hC, hD⟩ := h8
       obtain ⟨hC0, p9, hp9, hC1⟩ := endAt_pos hC
       have hg9 := (good_of q14).at hp9
       have h7 := (other_zero (u := x21.node) hg9.2.1.1 hg9.2.2.1.1)
       first | omega | (rw [inB_iff.2 hA] at q54; cases q54))
     exact ⟨ret_bool (goodV_bad (k := K) (by omega) e8).symm, c96⟩
    refine Fq (.bool false) (r_lss (m := x21.node) (n := 1) rfl ek ek (df q95)) ?_
    refine Fq (.bool false) (r_pick (b := false) rfl ek ek) ?_
    refine Fv (.bool false) ?_
    refine Fq (.pointer (some ⟨b2, 1, none⟩)) (r_field (k := 1) rfl ek kk) ?_
    refine Fl (.slice A n c) (sgS (blk_cell (j := 1) x6 kk) onn) ?_
    refine Fv (.int .i64 (findL ps x21.pipe)) ?_
    have hfl := findL_lt ps x21.pipe
    obtain ⟨pz, hpz⟩ := get_of (zs := ps) (k := (findL ps x21.pipe).toNat) (by omega)
    have hgz := (good_of q14).at hpz
    obtain ⟨b97, o98, hA99, hb100, hc101, hc102, hc103, hc104⟩ := Rd.elPipe ha hpz
    refine Fq (.pointer (some ⟨b97, o98 + ((findL ps x21.pipe).toNat) * 4, none⟩)) (r_idx (n := n) (c := c) (k := (findL ps x21.pipe).toNat) rfl ek hA99 (evk (z := findL ps x21.pipe) kk (by omega)) kk (by have := hl; omega)) ?_
    refine Fq (.agg #[.int .i64 pz.id, .int .i64 pz.fr, .int .i64 pz.to, .int .i64 pz.sz]) (r_load4 rfl ek kk kk (sgS (later c48 hc101) (by simp)) (sgS (later c48 hc102) (by simp)) (sgS (later c48 hc103) (by simp)) (sgS (later c48 hc104) (by simp))) ?_
    refine Fq (.pointer (some ⟨b31, 2, none⟩)) (r_field (k := 2) rfl ek kk) ?_
    refine Fl (.int .i64 x21.node) (sgS (blk_cell (j := 2) x41 kk) onn) ?_
    refine Fc [.agg #[.int .i64 pz.id, .int .i64 pz.fr, .int .i64 pz.to, .int .i64 pz.sz], .int .i64 x21.node] (other_any pz x21.node _) ?_
    rintro e w106 ⟨rfl, b105⟩
    have s107 := SG.of_below s51 b105
    refine ⟨_, rfl, s107, ?_⟩
    apply F.nx
    by_cases q108 : (otherOf pz x21.node : Int) = (0 : Int)
    ·refine Fq (.bool true) (r_eql (m := otherOf pz x21.node) (n := 0) rfl ek ek (dt q108)) ?_
     refine Fq (.bool true) (r_pick (b := false) rfl ek ek) ?_
     apply F.es
     have x6 := Sk s107 x6 onn
     have x41 := Sk s107 x41 onn
     have c109 := (Sb c48 s107 nkk)
     apply h14
     refine wp_cond_true ek ?_
     refine wk fun K23 h23 => ?_
     refine Rq 1 ?_
     refine Fa (.bool false) ?_
     apply F.es
     apply h23
     refine wp_ret ?_
     try simp only [Exit.then, Exit.inBlock]
     refine ret1 (v := .bool false) rfl kk ?_
     have e8 : okV ps vs (K) = false := Bool.eq_false_iff.2 (fun h9 => by
       have h8 := (okV_iff hx22).1 h9
       obtain ⟨⟨hA, hB⟩, hC, hD⟩ := h8
       obtain ⟨hC0, p9, hp9, hC1⟩ := endAt_pos hC
       have hg9 := (good_of q14).at hp9
       have h7 := (other_zero (u := x21.node) hg9.2.1.1 hg9.2.2.1.1)
       obtain rfl := Option.some.inj (hp9.symm.trans hpz)
       first | omega | (rw [inB_iff.2 hA] at q54; cases q54))
     exact ⟨ret_bool (goodV_bad (k := K) (by omega) e8).symm, c109⟩
    refine Fq (.bool false) (r_eql (m := otherOf pz x21.node) (n := 0) rfl ek ek (df q108)) ?_
    refine Fq (.bool false) (r_pick (b := false) rfl ek ek) ?_
    apply F.es
    have x6 := Sk s107 x6 onn
    have x41 := Sk s107 x41 onn
    have c110 := (Sb c48 s107 nkk)
    apply h14
    refine wp_cond_false ek ?_
    apply wp_skip
    apply h13
    refine wk fun K24 h24 => ?_
    refine W.region_plain (row := none) [(0, false), (1, false), (2, false), (3, false), (4, true)] kk ?_
    have s111 := SG.self w106 none
    refine Fv (.slice A2 n2 c2) ?_
    refine Fv (.int .i64 (K : Int)) ?_
    refine Fq (.slice A2 K c2) (r_sliceTo (A := A2) (n := n2) (c := c2) (k := K) (size := 4) rfl ek ek kk (by have := (hfm2).le; omega)) ?_
    refine Fq (.func (.func 83) #[] #[.pointer (some ⟨b31, 0, none⟩)]) (r_makeFunc (vs := [.pointer (some ⟨b31, 0, none⟩)]) rfl kk) ?_
    refine Fc [.slice A2 K c2, .func (.func 83) #[] #[.pointer (some ⟨b31, 0, none⟩)]] (anyV_any A2 K c2 (vs.take K) 83 #[.pointer (some ⟨b31, 0, none⟩)] (fun v => decide (v.pipe = x21.pipe) && decide (v.node = x21.node)) _ (Rd.toV (Rk hb (Sb c110 s111 nkk)) (by omega)) (by omega) kk (fun W v hW => validF_any v x21 b31 W ((hW.block _ (blk_lt x41)).trans x41))) ?_
    rintro e w113 ⟨rfl, b112⟩
    have s114 := SG.of_below s111 b112
    refine ⟨_, rfl, s114, ?_⟩
    apply F.nx
    rcases Bool.eq_false_or_eq_true ((vs.take K).any (fun v => decide (v.pipe = x21.pipe) && decide (v.node = x21.node))) with q115 | q115
    ·rw [q115]
     apply F.es
     have x6 := Sk s114 x6 onn
     have c116 := (Sb c110 s114 nkk)
     apply h24
     refine wp_cond_true ek ?_
     refine wk fun K25 h25 => ?_
     refine Rq 1 ?_
     refine Fa (.bool false) ?_
     apply F.es
     apply h25
     refine wp_ret ?_
     try simp only [Exit.then, Exit.inBlock]
     refine ret1 (v := .bool false) rfl kk ?_
     have e8 : okV ps vs (K) = false := Bool.eq_false_iff.2 (fun h9 => by
       have h8 := (okV_iff hx22).1 h9
       obtain ⟨⟨hA, hB⟩, hC, hD⟩ := h8
       obtain ⟨hC0, p9, hp9, hC1⟩ := endAt_pos hC
       have hg9 := (good_of q14).at hp9
       have h7 := (other_zero (u := x21.node) hg9.2.1.1 hg9.2.2.1.1)
       obtain rfl := Option.some.inj (hp9.symm.trans hpz)
       exact absurd (show placed (vs.take (K)) x21.pipe x21.node = true from q115) (by rw [hD]; simp))
     exact ⟨ret_bool (goodV_bad (k := K) (by omega) e8).symm, c116⟩
    rw [q115]
    apply F.es
    have x6 := Sk s114 x6 onn
    have c117 := (Sb c110 s114 nkk)
    apply h24
    refine wp_cond_false ek ?_
    apply wp_skip
    apply h10
    refine Rq 2 ?_
    refine Fq (.int .i64 ((K + 1 : Nat) : Int)) (r_add (m := (K : Int)) (n := 1) (z := ((K + 1 : Nat) : Int)) rfl ek ek (by omega) (by omega)) ?_
    refine Fv (.int .i64 ((K + 1 : Nat) : Int)) ?_
    apply F.es
    exact h7 _ _ _ (by omega : (n2 - (K + 1)) < _) ⟨K + 1, Kn.of, rfl, (by omega), (okVTo_next hok ((okV_iff hx22).2 ⟨⟨inB_iff.1 q54, (by have e0 : K = 0 := (by omega); subst e0; exact above_zero)⟩, endAt_of (by omega) hpz (by have h9 := (other_zero (u := x21.node) hgz.2.1.1 hgz.2.2.1.1); omega), q115⟩)), x6, c117⟩
   rw [q54]
   refine Fq (.bool true) (r_not (b := false) rfl ek rfl) ?_
   refine Fv (.bool true) ?_
   refine Fs s51 ?_
   refine Fs s51 ?_
   refine Fs s51 ?_
   refine Fs s51 ?_
   refine Fs s51 ?_
   refine Fs s51 ?_
   refine Fs s51 ?_
   refine Fs s51 ?_
   refine Fs s51 ?_
   refine Fs s51 ?_
   refine Fs s51 ?_
   refine Fs s51 ?_
   refine Fs s51 ?_
   refine Fq (.bool true) (r_pick (b := true) rfl ek ek) ?_
   refine Fv (.bool true) ?_
   refine Fs s51 ?_
   refine Fs s51 ?_
   refine Fq (.bool true) (r_pick (b := true) rfl ek ek) ?_
   refine Fv (.bool true) ?_
   refine Fs s51 ?_
   refine Fs s51 ?_
   refine Fs s51 ?_
   refine Fq (.bool true) (r_pick (b := true) rfl ek ek) ?_
   refine Fv (.bool true) ?_
   refine Fs s51 ?_
   refine Fs s51 ?_
   refine Fs s51 ?_
   refine Fs s51 ?_
   refine Fs s51 ?_
   refine Fs s51 ?_
   refine Fs s51 ?_
   refine Fs s51 ?_
   refine Fs s51 ?_
   refine Fq (.bool true) (r_pick (b := true) rfl ek ek) ?_
   apply F.es
   have c118 := (Sb c48 s51 nkk)
   apply h14
   refine wp_cond_true ek ?_
   refine wk fun K26 h26 => ?_
   refine Rq 1 ?_
   refine Fa (.bool false) ?_
   apply F.es
   apply h26
   refine wp_ret ?_
   try simp only [Exit.then, Exit.inBlock]
   refine ret1 (v := .bool false) rfl kk ?_
   have e8 : okV ps vs (K) = false := Bool.eq_false_iff.2 (fun h9 => by
     have h8 := (okV_iff hx22).1 h9
     obtain ⟨⟨hA, hB⟩, hC, hD⟩ := h8
     obtain ⟨hC0, p9, hp9, hC1⟩ := endAt_pos hC
     have hg9 := (good_of q14).at hp9
     have h7 := (other_zero (u := x21.node) hg9.2.1.1 hg9.2.2.1.1)
     first | omega | (rw [inB_iff.2 hA] at q54; cases q54))
   exact ⟨ret_bool (goodV_bad (k := K) (by omega) e8).symm, c118⟩
  refine Fq (.bool false) (r_lss (m := (K : Int)) (n := (n2 : Int)) rfl ek ek (df q19)) ?_
  apply F.es
  apply h8
  refine wk fun K27 h27 => ?_
  refine wp_cond_false ek ?_
  refine wp_exit ?_
  apply h5
  refine wk fun K28 h28 => ?_
  refine Rq 1 ?_
  refine Fa (.bool true) ?_
  apply F.es
  apply h28
  refine wp_ret ?_
  try simp only [Exit.then]
  refine ret1 (v := .bool true) rfl kk ?_
  exact ⟨ret_bool (goodV_fin q14 (by omega) (by rw [show vs.length = K by omega]; exact hok)).symm, c18⟩
 rw [q14]
 refine Fq (.bool true) (r_not (b := false) rfl ek rfl) ?_
 refine Fv (.bool true) ?_
 refine Fs s13 ?_
 refine Fs s13 ?_
 refine Fs s13 ?_
 refine Fq (.bool true) (r_pick (b := true) rfl ek ek) ?_
 apply F.es
 have c119 := (Sb c9 s13 nkk)
 apply h3
 refine wp_cond_true ek ?_
 refine wk fun K29 h29 => ?_
 refine Rq 1 ?_
 refine Fa (.bool false) ?_
 apply F.es
 apply h29
 refine wp_ret ?_
 try simp only [Exit.then]
 refine ret1 (v := .bool false) rfl kk ?_
 exact ⟨ret_bool (goodV_out (.inl q14)).symm, c119⟩
end Go.Proofs.Ytdbgfejeleafgaa
namespace Go.Proofs.Ytdbgfejeleafgaa
open Go.RowKit
set_option linter.unusedVariables false
theorem wet_eqI {E : Int → Int → Prop} {a b : Int} {k : Nat} {x : Bool} (hx : (wetL E a)[k]? = some x) (e : b = (k : Int)) : x = rb E a b := by rw [e]; exact wet_eq hx
end Go.Proofs.Ytdbgfejeleafgaa
namespace Go.Proofs.Ytdbgfejeleafgaa
open Go.RowKit
set_option linter.unusedVariables false
set_option linter.unusedSimpArgs false
def freshA (H : Nat) (A : Option Addr) (n : Nat) : Prop := 0 < n → ∀ b off, A = some ⟨b, off, none⟩ → H ≤ b
theorem freshA_of {w : World} {base size n c k : Nat} {e : TypeId} {A : Option Addr} {xs : List Value} (h : w.ownsRow base e size (.slice A n c) k xs) {m : Nat} (hm : m ≤ n) : freshA base A m := fun hp b off e1 => (World.ownsRow.lt h b (by rw [e1]; rfl)).1
theorem freshA_mono {H H' n : Nat} {A : Option Addr} (h : freshA H A n) (h' : H' ≤ H) : freshA H' A n := fun hp b off e => Nat.le_trans h' (h hp b off e)
theorem sp_fresh {H n g : Nat} {A : Option Addr} (h : freshA H A n) (hg : g < H) : Sp A n (some g) := fun hp b off e e2 => by
  have := h hp b off e
  cases e2; omega
theorem sp_row {W w : World} {size n base sz k : Nat} {A : Option Addr} {xs ys : List Value} {e : TypeId} {v : Value} (h : Rd W size A n xs) (how : w.ownsRow base e sz v k ys) (hb : W.heap.size ≤ base) : Sp A n v.ownBlock := fun hn b off e1 e2 => by
  obtain ⟨b9, off9, e9, h9, _⟩ := h.2 hn
  rw [e1] at e9
  cases e9
  have := (World.ownsRow.lt how b e2.symm).1
  omega
theorem findL_lt9 (ps : List Pp) (v : Int) : findL ps v < (ps.length : Int) := by
  induction ps with
  | nil => unfold findL; simp
  | cons p ps ih =>
    unfold findL
    rw [List.length_cons]
    split
    · omega
    · split <;> omega
set_option maxRecDepth 100000 in
set_option maxHeartbeats 8000000 in
theorem pipeOf_any (B N k : Nat) (m : Int) (A : Option Addr) (n c : Nat) (ps : List Pp) (w : World) (hc : Cur w B N k) (hk : k ≤ 900000000000) (ha : Rd w 4 A n (pipesV ps)) (hsp : Sp A n (some B)) (hn : n ≤ 30) (hm : m ≤ 1000) :
    Calls Try.prog 70 #[.pointer (some ⟨B, 0, none⟩), .agg #[.int .i64 m, .slice A n c]] w fun e w' => ∃ x, e = .returned (.int .i64 x) ∧ (True) ∧ Cur w' B N (k + 4) ∧ w.grownBy w' (some B) := by
 have hN := Cur.hN hc
 have hlpl := rd_pipes_len ha
 go_enter Try.func70, Try.ntmps70
 refine F.begin 25 [(0, .pointer (some ⟨B, 0, none⟩)), (1, .agg #[.int .i64 m, .slice A n c])] (fun U0 => ?_)
 refine wk fun K1 h1 => ?_
 refine W.region_plain (row := none) [(0, true), (1, false)] kk ?_
 have s1 := SG.self w none
 refine W.sn (fun b => .pointer (some ⟨b, 0, none⟩)) #[.int .i64 m, .slice A n c] 26 s1 rfl kk rfl (fun _ => by kernel_rfl) (fun b2 w3 hb4 k5 x6 s7 => ?_)
 apply F.nx
 have lo8 : w.heap.size ≤ b2 := Nl ((SG.fr (B := B) (World.grownBy.refl _ _) s1 nkk)).size (Nat.le_of_eq hb4)
 have ne10 : B ≠ b2 := Nat.ne_of_lt (Nat.lt_of_lt_of_eq (Nat.lt_of_lt_of_le (Cur.lt hc) (s1).size) hb4)
 refine Fa (.int .i64 0) ?_
 apply F.es
 have hc := Cur.below hc (SG.below s7)
 have c11 := (SG.fr (B := B) (World.grownBy.refl _ _) s7 nkk)
 have rd12 := Rk ha (SG.below s7)
 apply h1
 refine wk fun K2 h2 => ?_
 refine wk fun K3 h3 => ?_
 refine W.region_plain (row := (some B)) [(0, false), (1, false), (2, false), (3, false), (4, false), (5, false), (6, true), (7, false)] kk ?_
 have s13 := SG.self w3 (some B)
 refine Fq (.pointer (some ⟨b2, 1, none⟩)) (r_field (k := 1) rfl ek kk) ?_
 refine Fl (.slice A n c) (sgS (blk_cell (j := 1) x6 kk) (fun e9 => ne10 (Option.some.inj e9).symm)) ?_
 refine Fq (.int .i64 (n : Int)) (r_len (A := A) (n := n) (c := c) rfl ek kk) ?_
 by_cases q14 : ((n : Int) : Int) = (0 : Int)
 ·refine Fq (.bool true) (r_eql (m := (n : Int)) (n := 0) rfl ek ek (dt q14)) ?_
  refine Fv (.bool true) ?_
  refine Fs s13 ?_
  refine Fs s13 ?_
  refine Fq (.bool true) (r_pick (b := true) rfl ek ek) ?_
  apply F.es
  have x6 := Sk s13 x6 (fun e9 => ne10 (Option.some.inj e9).symm)
  have c15 := (SG.fr (B := B) c11 s13 (fun kq e => .inl (by cases e; rfl)))
  apply h3
  refine wp_cond_true ek ?_
  refine wk fun K4 h4 => ?_
  refine W.region_plain (row := (some B)) [(0, false), (1, true), (2, false)] kk ?_
  have s17 := SG.self w3 (some B)
  refine Fv (.pointer (some ⟨B, 0, none⟩)) ?_
  refine Fc [.pointer (some ⟨B, 0, none⟩), .int .i64 20] (pick_any B N k 20 _ hc (by omega) (by omega)) ?_
  rintro e w21 ⟨x18, rfl, hx19, x23, g22⟩
  have s24 := SG.of_grown s17 g22 (.inl rfl)
  refine ⟨_, rfl, s24, ?_⟩
  apply F.nx
  refine Fa (.int .i64 x18) ?_
  apply F.es
  have x6 := Sk s24 x6 (fun e9 => ne10 (Option.some.inj e9).symm)
  have c25 := (SG.fr (B := B) c15 s24 (fun kq e => .inl (by cases e; rfl)))
  apply h4
  refine wp_ret ?_
  try simp only [Exit.then]
  refine ret1 (v := .int .i64 x18) rfl kk ?_
  exact ⟨_, rfl, trivial, Cur.mono x23 (by omega), c25⟩
 refine Fq (.bool false) (r_eql (m := (n : Int)) (n := 0) rfl ek ek (df q14)) ?_
 refine Fv (.bool false) ?_
 refine Fv (.pointer (some ⟨B, 0, none⟩)) ?_
 refine Fc [.pointer (some ⟨B, 0, none⟩), .int .i64 10] (one_any B N k 10 _ hc (by omega) (by omega)) ?_
 rintro e w30 ⟨b27, rfl, _, x32, g31⟩
 have s33 := SG.of_grown s13 g31 (.inl rfl)
 refine ⟨_, rfl, s33, ?_⟩
 apply F.nx
 rcases Bool.eq_false_or_eq_true b27 with q34 | q34
 ·rw [q34]
  refine Fq (.bool true) (r_pick (b := false) rfl ek ek) ?_
  apply F.es
  have x6 := Sk s33 x6 (fun e9 => ne10 (Option.some.inj e9).symm)
  have c35 := (SG.fr (B := B) c11 s33 (fun kq e => .inl (by cases e; rfl)))
  apply h3
  refine wp_cond_true ek ?_
  refine wk fun K5 h5 => ?_
  refine W.region_plain (row := (some B)) [(0, false), (1, true), (2, false)] kk ?_
  have s37 := SG.self w30 (some B)
  refine Fv (.pointer (some ⟨B, 0, none⟩)) ?_
  refine Fc [.pointer (some ⟨B, 0, none⟩), .int .i64 20] (pick_any B N (k + 2) 20 _ x32 (by omega) (by omega)) ?_
  rintro e w41 ⟨x38, rfl, hx39, x43, g42⟩
  have s44 := SG.of_grown s37 g42 (.inl rfl)
  refine ⟨_, rfl, s44, ?_⟩
  apply F.nx
  refine Fa (.int .i64 x38) ?_
  apply F.es
  have x6 := Sk s44 x6 (fun e9 => ne10 (Option.some.inj e9).symm)
  have c45 := (SG.fr (B := B) c35 s44 (fun kq e => .inl (by cases e; rfl)))
  apply h5
  refine wp_ret ?_
  try simp only [Exit.then]
  refine ret1 (v := .int .i64 x38) rfl kk ?_
  exact ⟨_, rfl, trivial, Cur.mono x43 (by omega), c45⟩
 rw [q34]
 refine Fq (.bool false) (r_pick (b := false) rfl ek ek) ?_
 apply F.es
 have x6 := Sk s33 x6 (fun e9 => ne10 (Option.some.inj e9).symm)
 have c47 := (SG.fr (B := B) c11 s33 (fun kq e => .inl (by cases e; rfl)))
 have rd48 := rd_sep rd12 s33 hsp
 apply h3
 refine wp_cond_false ek ?_
 apply wp_skip
 apply h2
 refine wk fun K6 h6 => ?_
 refine W.region_sch (row := (some B)) (Sch.of [(0, false), (1, false), (2, false), (3, false), (4, false), (5, false), (6, true), (7, false), (8, false), (9, false), (10, false)]) kk kk (fun _ d _ _ _ h => by cases d <;> exact h) kk (fun w49 e50 s51 => ?_)
 have x52 := Cur.heap x32 e50
 refine Fq (.pointer (some ⟨b2, 1, none⟩)) (r_field (k := 1) rfl ek kk) ?_
 refine Fl (.slice A n c) (sgS (blk_cell (j := 1) x6 kk) (fun e9 => ne10 (Option.some.inj e9).symm)) ?_
 refine Fv (.pointer (some ⟨B, 0, none⟩)) ?_
 refine Fq (.pointer (some ⟨b2, 1, none⟩)) (r_field (k := 1) rfl ek kk) ?_
 refine Fl (.slice A n c) (sgS (blk_cell (j := 1) x6 kk) (fun e9 => ne10 (Option.some.inj e9).symm)) ?_
 refine Fq (.int .i64 (n : Int)) (r_len (A := A) (n := n) (c := c) rfl ek kk) ?_
 refine Fc [.pointer (some ⟨B, 0, none⟩), .int .i64 (n : Int)] (pick_any B N (k + 2) (n : Int) _ x52 (by omega) (by omega)) ?_
 rintro e w56 ⟨x53, rfl, hx54, x58, g57⟩
 have s59 := SG.of_grown s51 g57 (.inl rfl)
 refine ⟨_, rfl, s59, ?_⟩
 apply F.nx
 obtain ⟨x60, hx61⟩ := get_of (zs := ps) (k := x53.toNat) (by have := hlpl; omega)
 obtain ⟨b62, o63, hA64, hb65, hc66, hc67, hc68, hc69⟩ := Rd.elPipe rd48 hx61
 refine Fq (.pointer (some ⟨b62, o63 + x53.toNat * 4, none⟩)) (r_idx (n := n) (c := c) (k := x53.toNat) rfl ek hA64 (evk (z := x53) kk (by omega)) kk (by have := hlpl; omega)) ?_
 refine Fq (.pointer (some ⟨b62, o63 + x53.toNat * 4, none⟩)) (r_field0 rfl ek kk) ?_
 refine Fl (.int .i64 x60.id) (sgS hc66 (hsp (by omega) _ _ hA64)) ?_
 refine Fa (.int .i64 x60.id) ?_
 apply F.es
 have c70 := (SG.fr (B := B) c47 s59 (fun kq e => .inl (by cases e; rfl)))
 apply h6
 refine wp_ret ?_
 try simp only [Exit.then]
 refine ret1 (v := .int .i64 x60.id) rfl kk ?_
 exact ⟨_, rfl, trivial, Cur.mono x58 (by omega), c70⟩
theorem snoc_lenV {vs : List Vv} {x : Vv} : (vs ++ [x]).length = vs.length + 1 := by simp
set_option maxRecDepth 100000 in
set_option maxHeartbeats 8000000 in
theorem valves_any (B N k : Nat) (m : Int) (A : Option Addr) (n c : Nat) (ps : List Pp) (w : World) (hc : Cur w B N k) (hk : k ≤ 800000000000) (ha : Rd w 4 A n (pipesV ps)) (hsp : Sp A n (some B)) (hn : n ≤ 30) (hm : m ≤ 1000) :
    Calls Try.prog 69 #[.pointer (some ⟨B, 0, none⟩), .agg #[.int .i64 m, .slice A n c]] w fun e w' => ∃ (A' : Option Addr) (n' c' : Nat) (vs : List Vv), e = .returned (.slice A' n' c') ∧ (w'.ownsRow w.heap.size 40 4 (.slice A' n' c') n' (valvesV vs) ∧ vs.length ≤ 11) ∧ Cur w' B N (k + 400) ∧ w.grownBy w' (some B) := by
 have hN := Cur.hN hc
 have hlpl := rd_pipes_len ha
 go_enter Try.func69, Try.ntmps69
 refine F.begin 94 [(0, .pointer (some ⟨B, 0, none⟩)), (1, .agg #[.int .i64 m, .slice A n c])] (fun U0 => ?_)
 refine wk fun K1 h1 => ?_
 refine W.region_plain (row := none) [(0, true), (1, false)] kk ?_
 have s1 := SG.self w none
 refine W.sn (fun b => .pointer (some ⟨b, 0, none⟩)) #[.int .i64 m, .slice A n c] 26 s1 rfl kk rfl (fun _ => by kernel_rfl) (fun b2 w3 hb4 k5 x6 s7 => ?_)
 apply F.nx
 have lo8 : w.heap.size ≤ b2 := Nl ((SG.fr (B := B) (World.grownBy.refl _ _) s1 nkk)).size (Nat.le_of_eq hb4)
 have ne10 : B ≠ b2 := Nat.ne_of_lt (Nat.lt_of_lt_of_eq (Nat.lt_of_lt_of_le (Cur.lt hc) (s1).size) hb4)
 refine Fa (.slice none 0 0) ?_
 apply F.es
 have hc := Cur.below hc (SG.below s7)
 have c11 := (SG.fr (B := B) (World.grownBy.refl _ _) s7 nkk)
 have rd12 := Rk ha (SG.below s7)
 apply h1
 refine wk fun K2 h2 => ?_
 refine W.region_plain (row := none) [(0, true), (1, false)] kk ?_
 have s13 := SG.self w3 none
 refine W.sn (fun b => .slice (some ⟨b, 0, none⟩) 0 0) #[] 40 s13 rfl kk rfl (fun _ => by kernel_rfl) (fun b14 w15 hb16 k17 x18 s19 => ?_)
 apply F.nx
 have lo20 : w.heap.size ≤ b14 := Nl ((SG.fr (B := B) c11 s13 nkk)).size (Nat.le_of_eq hb16)
 have sp21 : Sp A n (some b14) := sp_new rd12 (by have := (s13).size; have := hb16; omega)
 have ne22 : B ≠ b14 := Nat.ne_of_lt (Nat.lt_of_lt_of_eq (Nat.lt_of_lt_of_le (Cur.lt hc) (s13).size) hb16)
 have ne23 : b2 ≠ b14 := Nat.ne_of_lt (Nat.lt_of_lt_of_eq (Nat.lt_of_lt_of_le (blk_lt x6) (s13).size) hb16)
 refine Fa (.slice (some ⟨b14, 0, none⟩) 0 0) ?_
 apply F.es
 have hc := Cur.below hc (SG.below s19)
 have x6 := Sk s19 x6 onn
 have c24 := (SG.fr (B := B) c11 s19 nkk)
 have rd25 := Rk rd12 (SG.below s19)
 apply h2
 refine wk fun K3 h3 => ?_
 refine Rq 1 ?_
 refine Fa (.int .i64 0) ?_
 apply F.es
 apply h3
 refine wk fun K4 h4 => ?_
 refine wk fun K5 h5 => ?_
 refine Rq 1 ?_
 refine Fa (.int .i64 0) ?_
 apply F.es
 apply h5
 refine wp_block ?_
 have ho26 := own_empty (base := w.heap.size) (size := 4) x18 lo20
 replace ho26 : World.ownsRow _ _ _ _ _ _ (valvesV []) := ho26
 have sp27 := sp_own (n' := 0) (c := 0) sp21
 have nb28 : Nb B (.slice (some ⟨b14, 0, none⟩) 0 0) := nb_new ne22
 have nb29 : Nb b2 (.slice (some ⟨b14, 0, none⟩) 0 0) := nb_new ne23
 refine loopK (fun am0 aa0 wl0 => ∃ (i : Nat) (d0 : Int) (us0 : List Vv) (A0_5 : Option Addr) (n0_5 : Nat) (c0_5 : Nat) , Kn aa0 [(0, .pointer (some ⟨B, 0, none⟩)), (3, .pointer (some ⟨b2, 0, none⟩)), (4, .slice none 0 0), (5, .slice A0_5 n0_5 c0_5), (6, .int .i64 d0), (7, .int .i64 (i : Int))] 94 ∧ (am0 = n - i) ∧ (i ≤ n) ∧ (0 ≤ d0 ∧ d0 ≤ 4 * i) ∧ (us0.length ≤ 10) ∧ (Cur wl0 B N (k + 12 * i)) ∧ (wl0.heap[b2]? = some (.cells #[.int .i64 m, .slice A n c] 26 (0, 0))) ∧ (wl0.ownsRow w.heap.size 40 4 (.slice A0_5 n0_5 c0_5) n0_5 (valvesV us0)) ∧ (Nb B (.slice A0_5 n0_5 c0_5)) ∧ (Nb b2 (.slice A0_5 n0_5 c0_5)) ∧ (Rd wl0 4 A n (pipesV ps)) ∧ (Sp A n (Value.ownBlock (.slice A0_5 n0_5 c0_5))) ∧ (w.grownBy wl0 (some B))) (n - 0) ?_ ?_
 ·exact ⟨0, 0, [], (some ⟨b14, 0, none⟩), 0, 0, Kn.of, rfl, (by omega), (⟨by omega, by omega⟩), (by simp), (Cur.mono hc (by omega)), x6, ho26, nb28, nb29, rd25, sp27, c24⟩
 rintro am0 aa0 wl0 K6 h6 ⟨i, d0, us0, A0_5, n0_5, c0_5, ⟨U0, rfl⟩, rfl, hi, hd, hu0, hc, x6, ho0_5, nb0_5_B, nb0_5_b2, kl0_0, sq0_0_5, c30⟩
 have hlr0 := rd_valves_len (own_rd ho0_5)
 refine wk fun K7 h7 => ?_
 refine wk fun K8 h8 => ?_
 refine Rq 5 ?_
 refine Fv (.int .i64 (i : Int)) ?_
 refine Fq (.pointer (some ⟨b2, 1, none⟩)) (r_field (k := 1) rfl ek kk) ?_
 refine Fl (.slice A n c) (eqS (blk_cell (j := 1) x6 kk)) ?_
 refine Fq (.int .i64 (n : Int)) (r_len (A := A) (n := n) (c := c) rfl ek kk) ?_
 by_cases q31 : ((i : Int) : Int) < ((n : Int) : Int)
 ·refine Fq (.bool true) (r_lss (m := (i : Int)) (n := (n : Int)) rfl ek ek (dt q31)) ?_
  apply F.es
  apply h8
  refine wp_cond_true ek ?_
  apply wp_skip
  apply h7
  refine wk fun K9 h9 => ?_
  refine wp_block ?_
  refine wk fun K10 h10 => ?_
  refine Rq 1 ?_
  refine Fa (.int .i64 0) ?_
  apply F.es
  apply h10
  refine wp_block ?_
  refine loopK (fun am1 aa1 wl1 => ∃ (j : Nat) (d1 : Int) (us1 : List Vv) (A1_5 : Option Addr) (n1_5 : Nat) (c1_5 : Nat) , Kn aa1 [(0, .pointer (some ⟨B, 0, none⟩)), (3, .pointer (some ⟨b2, 0, none⟩)), (4, .slice none 0 0), (5, .slice A1_5 n1_5 c1_5), (6, .int .i64 d1), (7, .int .i64 (i : Int)), (8, .int .i64 (j : Int)), (15, .bool true)] 94 ∧ (am1 = 2 - j) ∧ (j ≤ 2) ∧ (0 ≤ d1 ∧ d1 ≤ 4 * i + 2 * j) ∧ (us1.length ≤ 10) ∧ (Cur wl1 B N (k + 12 * i + 6 * j)) ∧ (wl1.heap[b2]? = some (.cells #[.int .i64 m, .slice A n c] 26 (0, 0))) ∧ (wl1.ownsRow w.heap.size 40 4 (.slice A1_5 n1_5 c1_5) n1_5 (valvesV us1)) ∧ (Nb B (.slice A1_5 n1_5 c1_5)) ∧ (Nb b2 (.slice A1_5 n1_5 c1_5)) ∧ (Rd wl1 4 A n (pipesV ps)) ∧ (Sp A n (Value.ownBlock (.slice A1_5 n1_5 c1_5))) ∧ (w.grownBy wl1 (some B))) (2 - 0) ?_ ?_
  ·exact ⟨0, d0, us0, A0_5, n0_5, c0_5, Kn.of, rfl, (by omega), (⟨by omega, by omega⟩), (by omega), (Cur.mono hc (by omega)), x6, ho0_5, nb0_5_B, nb0_5_b2, kl0_0, sq0_0_5, c30⟩
  rintro am1 aa1 wl1 K11 h11 ⟨j, d1, us1, A1_5, n1_5, c1_5, ⟨U1, rfl⟩, rfl, hj, hd1, hu1, hc, x6, ho1_5, nb1_5_B, nb1_5_b2, kl1_0, sq1_0_5, c32⟩
  have hlr1 := rd_valves_len (own_rd ho1_5)
  refine wk fun K12 h12 => ?_
  refine wk fun K13 h13 => ?_
  refine Rq 2 ?_
  refine Fv (.int .i64 (j : Int)) ?_
  by_cases q33 : ((j : Int) : Int) < (2 : Int)
  ·refine Fq (.bool true) (r_lss (m := (j : Int)) (n := 2) rfl ek ek (dt q33)) ?_
   apply F.es
   apply h13
   refine wp_cond_true ek ?_
   apply wp_skip
   apply h12
   refine joinK (fun amj1 aaj1 wlj1 => ∃ (usj : List Vv) (dj : Int) (Aj1_5 : Option Addr) (nj1_5 : Nat) (cj1_5 : Nat) , Kn aaj1 [(0, .pointer (some ⟨B, 0, none⟩)), (3, .pointer (some ⟨b2, 0, none⟩)), (4, .slice none 0 0), (5, .slice Aj1_5 nj1_5 cj1_5), (6, .int .i64 dj), (7, .int .i64 (i : Int)), (8, .int .i64 (j : Int)), (15, .bool true), (19, .bool true)] 94 ∧ (amj1 = 0) ∧ (usj.length ≤ 10) ∧ (0 ≤ dj ∧ dj ≤ d1 + 2) ∧ (Cur wlj1 B N ((k + 12 * i + 6 * j + 6))) ∧ (wlj1.heap[b2]? = some (.cells #[.int .i64 m, .slice A n c] 26 (0, 0))) ∧ (wlj1.ownsRow w.heap.size 40 4 (.slice Aj1_5 nj1_5 cj1_5) nj1_5 (valvesV usj)) ∧ (Nb B (.slice Aj1_5 nj1_5 cj1_5)) ∧ (Nb b2 (.slice Aj1_5 nj1_5 cj1_5)) ∧ (Rd wlj1 4 A n (pipesV ps)) ∧ (Sp A n (Value.ownBlock (.slice Aj1_5 nj1_5 cj1_5))) ∧ (w.grownBy wlj1 (some B))) ?_ ?_
   ·rintro amj1 aaj1 wlj1 ⟨usj, dj, Aj1_5, nj1_5, cj1_5, ⟨Uj1, rfl⟩, rfl, huj, hdj, hc, x6, hoj1_5, nbj1_5_B, nbj1_5_b2, klj1_0, sqj1_0_5, c34⟩
    refine Rq 3 ?_
    refine Fv (.int .i64 (j : Int)) ?_
    refine Fq (.int .i64 ((j + 1 : Nat) : Int)) (r_add (m := (j : Int)) (n := 1) (z := ((j + 1 : Nat) : Int)) rfl ek ek (by omega) (by omega)) ?_
    refine Fa (.int .i64 ((j + 1 : Nat) : Int)) ?_
    apply F.es
    exact h11 _ _ _ (by omega : (2 - (j + 1)) < _) ⟨j + 1, dj, usj, Aj1_5, nj1_5, cj1_5, Kn.of, rfl, (by omega), (⟨by omega, by omega⟩), (by omega), (Cur.mono hc (by omega)), x6, hoj1_5, nbj1_5_B, nbj1_5_b2, klj1_0, sqj1_0_5, c34⟩
   intro K14 h14
   refine wp_block ?_
   refine wk fun K15 h15 => ?_
   refine wk fun K16 h16 => ?_
   refine W.region_plain (row := (some B)) [(0, false), (1, true), (2, false), (3, false), (4, false), (5, false), (6, false)] kk ?_
   have s35 := SG.self wl1 (some B)
   refine Fv (.pointer (some ⟨B, 0, none⟩)) ?_
   refine Fc [.pointer (some ⟨B, 0, none⟩), .int .i64 2] (one_any B N (k + 12 * i + 6 * j) 2 _ hc (by omega) (by omega)) ?_
   rintro e w39 ⟨b36, rfl, _, x41, g40⟩
   have s42 := SG.of_grown s35 g40 (.inl rfl)
   refine ⟨_, rfl, s42, ?_⟩
   apply F.nx
   have ho43 := own_grown ho1_5 g40 (fun j e1 e2 => by cases e2; exact nb1_5_B e1.symm)
   rcases Bool.eq_false_or_eq_true b36 with q44 | q44
   ·rw [q44]
    refine Fv (.bool true) ?_
    refine Fs s42 ?_
    refine Fs s42 ?_
    refine Fs s42 ?_
    refine Fq (.bool true) (r_pick (b := true) rfl ek ek) ?_
    apply F.es
    have x6 := Sk s42 x6 (fun e9 => ne10 (Option.some.inj e9).symm)
    have c45 := (SG.fr (B := B) c32 s42 (fun kq e => .inl (by cases e; rfl)))
    have rd46 := rd_sep kl1_0 s42 hsp
    apply h16
    refine wp_cond_true ek ?_
    refine wp_exit ?_
    exact h14 _ _ _ ⟨us1, d1, A1_5, n1_5, c1_5, Kn.of, rfl, (by omega), (⟨by omega, by omega⟩), (Cur.mono x41 (by omega)), x6, ho43, nb1_5_B, nb1_5_b2, rd46, sq1_0_5, c45⟩
   rw [q44]
   refine Fv (.bool false) ?_
   refine Fv (.slice A1_5 n1_5 c1_5) ?_
   refine Fq (.int .i64 (n1_5 : Int)) (r_len (A := A1_5) (n := n1_5) (c := c1_5) rfl ek kk) ?_
   by_cases q47 : ((n1_5 : Int) : Int) ≥ (10 : Int)
   ·refine Fq (.bool true) (r_geq (m := (n1_5 : Int)) (n := 10) rfl ek ek (dt q47)) ?_
    refine Fq (.bool true) (r_pick (b := false) rfl ek ek) ?_
    apply F.es
    have x6 := Sk s42 x6 (fun e9 => ne10 (Option.some.inj e9).symm)
    have c48 := (SG.fr (B := B) c32 s42 (fun kq e => .inl (by cases e; rfl)))
    have rd49 := rd_sep kl1_0 s42 hsp
    apply h16
    refine wp_cond_true ek ?_
    refine wp_exit ?_
    exact h14 _ _ _ ⟨us1, d1, A1_5, n1_5, c1_5, Kn.of, rfl, (by omega), (⟨by omega, by omega⟩), (Cur.mono x41 (by omega)), x6, ho43, nb1_5_B, nb1_5_b2, rd49, sq1_0_5, c48⟩
   refine Fq (.bool false) (r_geq (m := (n1_5 : Int)) (n := 10) rfl ek ek (df q47)) ?_
   refine Fq (.bool false) (r_pick (b := false) rfl ek ek) ?_
   apply F.es
   have x6 := Sk s42 x6 (fun e9 => ne10 (Option.some.inj e9).symm)
   have c50 := (SG.fr (B := B) c32 s42 (fun kq e => .inl (by cases e; rfl)))
   have rd51 := rd_sep kl1_0 s42 hsp
   apply h16
   refine wp_cond_false ek ?_
   apply wp_skip
   apply h15
   refine wk fun K17 h17 => ?_
   refine W.region_plain (row := (some B)) [(0, false), (1, false), (2, false), (3, true), (4, false), (5, false)] kk ?_
   have s52 := SG.self w39 (some B)
   refine Fv (.int .i64 d1) ?_
   refine Fq (.int .i64 (d1 + 1)) (r_add (m := d1) (n := 1) (z := d1 + 1) rfl ek ek (rfl) (by omega)) ?_
   refine Fv (.pointer (some ⟨B, 0, none⟩)) ?_
   refine Fc [.pointer (some ⟨B, 0, none⟩), .int .i64 2] (pick_any B N (k + 12 * i + 6 * j + 2) 2 _ x41 (by omega) (by omega)) ?_
   rintro e w56 ⟨x53, rfl, hx54, x58, g57⟩
   have s59 := SG.of_grown s52 g57 (.inl rfl)
   refine ⟨_, rfl, s59, ?_⟩
   apply F.nx
   have ho60 := own_grown ho43 g57 (fun j e1 e2 => by cases e2; exact nb1_5_B e1.symm)
   refine Fq (.int .i64 (d1 + 1 + x53)) (r_add (m := d1 + 1) (n := x53) (z := d1 + 1 + x53) rfl ek ek (rfl) (by omega)) ?_
   refine Fa (.int .i64 (d1 + 1 + x53)) ?_
   apply F.es
   have x6 := Sk s59 x6 (fun e9 => ne10 (Option.some.inj e9).symm)
   have c61 := (SG.fr (B := B) c50 s59 (fun kq e => .inl (by cases e; rfl)))
   have rd62 := rd_sep rd51 s59 hsp
   apply h17
   refine M.region_sch (row := [(some B), (Value.ownBlock (.slice A1_5 n1_5 c1_5))]) (Sch.app [(0, false), (1, false), (2, false), (3, false), (4, false), (5, false), (6, false), (7, false), (8, false), (9, false), (10, false), (11, false), (12, false), (13, false), (14, false), (15, false), (16, false), (17, false), (18, false), (19, false), (21, false), (24, false)] (.br 20 25 (Sch.app [(22, false)] (.br 23 25 (Sch.of [(25, true), (26, false), (27, true), (28, true), (29, false)]) (Sch.of [(23, true), (26, false), (27, true), (28, true), (29, false)]))) (Sch.of [(20, true), (22, false), (23, true), (26, false), (27, true), (28, true), (29, false)]))) kk kk (fun _ d _ _ _ h => by cases d <;> exact h) kk (fun w63 e64 s65 => ?_)
   have ho66 := own_heap ho60 e64
   have x67 := Cur.heap x58 e64
   refine Fv (.slice A1_5 n1_5 c1_5) ?_
   refine Fv (.int .i64 (d1 + 1 + x53)) ?_
   refine Fq (.pointer (some ⟨b2, 1, none⟩)) (r_field (k := 1) rfl ek kk) ?_
   refine Fl (.slice A n c) (smS (blk_cell (j := 1) x6 kk) (ne2 (fun e9 => ne10 (Option.some.inj e9).symm) nb1_5_b2)) ?_
   refine Fv (.int .i64 (i : Int)) ?_
   obtain ⟨x68, hx69⟩ := get_of (zs := ps) (k := i) (by have := hlpl; omega)
   obtain ⟨b70, o71, hA72, hb73, hc74, hc75, hc76, hc77⟩ := Rd.elPipe rd62 hx69
   refine Fq (.pointer (some ⟨b70, o71 + i * 4, none⟩)) (r_idx (n := n) (c := c) (k := i) rfl ek hA72 kk kk (by have := hlpl; omega)) ?_
   refine Fq (.pointer (some ⟨b70, o71 + i * 4, none⟩)) (r_field0 rfl ek kk) ?_
   refine Fl (.int .i64 x68.id) (smS hc74 (ne2 (hsp (by omega) _ _ hA72) (sq1_0_5 (by omega) _ _ hA72))) ?_
   refine Fq (.pointer (some ⟨b2, 1, none⟩)) (r_field (k := 1) rfl ek kk) ?_
   refine Fl (.slice A n c) (smS (blk_cell (j := 1) x6 kk) (ne2 (fun e9 => ne10 (Option.some.inj e9).symm) nb1_5_b2)) ?_
   refine Fv (.int .i64 (i : Int)) ?_
   obtain ⟨b78, o79, hA80, hb81, hc82, hc83, hc84, hc85⟩ := Rd.elPipe rd62 hx69
   refine Fq (.pointer (some ⟨b78, o79 + i * 4, none⟩)) (r_idx (n := n) (c := c) (k := i) rfl ek hA80 kk kk (by have := hlpl; omega)) ?_
   refine Fq (.pointer (some ⟨b78, o79 + i * 4 + 1, none⟩)) (r_field (k := 1) rfl ek kk) ?_
   refine Fl (.int .i64 x68.fr) (smS hc83 (ne2 (hsp (by omega) _ _ hA80) (sq1_0_5 (by omega) _ _ hA80))) ?_
   refine Fq (.pointer (some ⟨b2, 1, none⟩)) (r_field (k := 1) rfl ek kk) ?_
   refine Fl (.slice A n c) (smS (blk_cell (j := 1) x6 kk) (ne2 (fun e9 => ne10 (Option.some.inj e9).symm) nb1_5_b2)) ?_
   refine Fv (.int .i64 (i : Int)) ?_
   obtain ⟨b86, o87, hA88, hb89, hc90, hc91, hc92, hc93⟩ := Rd.elPipe rd62 hx69
   refine Fq (.pointer (some ⟨b86, o87 + i * 4, none⟩)) (r_idx (n := n) (c := c) (k := i) rfl ek hA88 kk kk (by have := hlpl; omega)) ?_
   refine Fq (.pointer (some ⟨b86, o87 + i * 4 + 2, none⟩)) (r_field (k := 2) rfl ek kk) ?_
   refine Fl (.int .i64 x68.to) (smS hc92 (ne2 (hsp (by omega) _ _ hA88) (sq1_0_5 (by omega) _ _ hA88))) ?_
   refine Fv (.int .i64 (j : Int)) ?_
   refine Fv (.pointer (some ⟨B, 0, none⟩)) ?_
   refine W.sbr ?_ ?_
   ·refine M.sn (fun b => .slice (some ⟨b, 0, none⟩) 2 2) #[.int .i64 x68.fr, .int .i64 x68.to] 3 s65 rfl kk rfl (fun _ => by kernel_rfl) (fun b94 w95 hb96 k97 x98 s99 => ?_)
    apply F.nx
    have lo100 : w.heap.size ≤ b94 := Nl ((SM.fr (B := B) c61 s65 (in2 (fun kq e => .inl (by cases e; rfl)) (fun kq e => .inr (World.ownsRow.lt ho60 kq e).1)))).size (Nat.le_of_eq hb96)
    have ne102 : B ≠ b94 := Nat.ne_of_lt (Nat.lt_of_lt_of_eq (Cur.lt x67) hb96)
    have x67 := Cur.below x67 k97
    have ho105 := own_kept ho66 k97
    have ho106 := own_blk (base := w.heap.size) (size := 1) (n := 2) x98 lo100 rfl (by omega)
    replace ho106 : World.ownsRow _ _ _ _ _ _ (intsV [x68.fr, x68.to]) := ho106
    have nb109 : Nb B (.slice (some ⟨b94, 0, none⟩) 2 2) := nb_new ne102
    have rd112 := own_rd ho106
    have hl113 := rd_ints_len rd112
    have sp114 := sp_of_nb (n := 2) nb109
    obtain ⟨x116, hx117⟩ := get_of (zs := [x68.fr, x68.to]) (k := j) (by have := hl113; omega)
    obtain ⟨b118, o119, hA120, hb121, hc122⟩ := Rd.elInt rd112 hx117
    refine Fq (.pointer (some ⟨b118, o119 + j, none⟩)) (r_idx1 (n := 2) (c := 2) (k := j) rfl ek hA120 kk kk (by have := hl113; omega)) ?_
    refine W.sbr ?_ ?_
    ·refine W.slq (v := .int .i64 x116) s99 rfl (r_load rfl kk kk (eqS hc122)) kk rfl ?_
     apply F.nx
     refine Fc [.pointer (some ⟨B, 0, none⟩), .int .i64 3] (one_any B N ((k + 12 * i + 6 * j + 2) + 2) 3 _ x67 (by omega) (by omega)) ?_
     rintro e w126 ⟨b123, rfl, _, x128, g127⟩
     have s129 := SM.of_grown s99 g127 (.inl (by simp))
     refine ⟨_, rfl, s129, ?_⟩
     apply F.nx
     have ho130 := own_grown ho105 g127 (fun j e1 e2 => by cases e2; exact nb1_5_B e1.symm)
     rcases Bool.eq_false_or_eq_true b123 with q132 | q132
     ·rw [q132]
      refine Fq (.agg #[.int .i64 (d1 + 1 + x53), .int .i64 x68.id, .int .i64 x116, .bool true]) (r_build rfl (vs := [(0, .int .i64 (d1 + 1 + x53)), (1, .int .i64 x68.id), (2, .int .i64 x116), (3, .bool true)]) kk kk) ?_
      refine M.sn (fun b => .slice (some ⟨b, 0, none⟩) 1 1) #[.int .i64 (d1 + 1 + x53), .int .i64 x68.id, .int .i64 x116, .bool true] 40 s129 rfl kk rfl (fun _ => by kernel_rfl) (fun b133 w134 hb135 k136 x137 s138 => ?_)
      apply F.nx
      have lo139 : w.heap.size ≤ b133 := Nl ((SM.fr (B := B) c61 s129 (in2 (fun kq e => .inl (by cases e; rfl)) (fun kq e => .inr (World.ownsRow.lt ho60 kq e).1)))).size (Nat.le_of_eq hb135)
      have x128 := Cur.below x128 k136
      have ho144 := own_kept ho130 k136
      refine M.sap (e := 40) (size := 4) (base := w.heap.size) (m := 1) (v := .slice A1_5 n1_5 c1_5) (c := 1) s138 rfl rfl rfl rfl kk kk kk ho144 x137 kk kk (by omega) (by omega) (by have := ((SM.fr (B := B) c61 s138 (in2 (fun kq e => .inl (by cases e; rfl)) (fun kq e => .inr (World.ownsRow.lt ho60 kq e).1)))).size; omega) (.inl (by simp)) (fun g146 cap147 w148 ho149 hg150 hat151 hlt152 s153 => ?_)
      apply F.nx
      have nb154 : Nb B (.slice (some ⟨g146, 0, none⟩) (n1_5 + 1) cap147) := nb_app nb1_5_B (Cur.lt x128) hat151
      have x128 := Cur.grown x128 hg150 nb1_5_B (fun j e => Nat.le_trans hN (World.ownsRow.lt ho144 j e).1)
      have nb155 : Nb b2 (.slice (some ⟨g146, 0, none⟩) (n1_5 + 1) cap147) := nb_app nb1_5_b2 (Nat.lt_of_lt_of_le (blk_lt x6) (s138).size) hat151
      have ho149 := own_snocV (x := (Vv.mk (d1 + 1 + x53) x68.id x116 true)) ho149
      have sp157 := sp_app (v' := .slice (some ⟨g146, 0, none⟩) (n1_5 + 1) cap147) sq1_0_5 rd62 ((s138).size) (hat3 (v := .slice A1_5 n1_5 c1_5) hat151)
      refine Fa (.slice (some ⟨g146, 0, none⟩) (n1_5 + 1) cap147) ?_
      apply F.es
      have x6 := SM.blk s153 x6 (ne2 (fun e9 => ne10 (Option.some.inj e9).symm) nb1_5_b2)
      have c158 := (SM.fr (B := B) c61 s153 (in2 (fun kq e => .inl (by cases e; rfl)) (fun kq e => .inr (World.ownsRow.lt ho60 kq e).1)))
      have rd159 := rd_sepM rd62 s153 (sp2 hsp sq1_0_5)
      exact h14 _ _ _ ⟨(us1 ++ [(Vv.mk (d1 + 1 + x53) x68.id x116 true)]), d1 + 1 + x53, (some ⟨g146, 0, none⟩), (n1_5 + 1), cap147, Kn.of, rfl, (by rw [snoc_lenV]; omega), (⟨by omega, by omega⟩), (Cur.mono x128 (by omega)), x6, ho149, nb154, nb155, rd159, sp157, c158⟩
     rw [q132]
     refine Fq (.agg #[.int .i64 (d1 + 1 + x53), .int .i64 x68.id, .int .i64 x116, .bool false]) (r_build rfl (vs := [(0, .int .i64 (d1 + 1 + x53)), (1, .int .i64 x68.id), (2, .int .i64 x116), (3, .bool false)]) kk kk) ?_
     refine M.sn (fun b => .slice (some ⟨b, 0, none⟩) 1 1) #[.int .i64 (d1 + 1 + x53), .int .i64 x68.id, .int .i64 x116, .bool false] 40 s129 rfl kk rfl (fun _ => by kernel_rfl) (fun b160 w161 hb162 k163 x164 s165 => ?_)
     apply F.nx
     have lo166 : w.heap.size ≤ b160 := Nl ((SM.fr (B := B) c61 s129 (in2 (fun kq e => .inl (by cases e; rfl)) (fun kq e => .inr (World.ownsRow.lt ho60 kq e).1)))).size (Nat.le_of_eq hb162)
     have x128 := Cur.below x128 k163
     have ho171 := own_kept ho130 k163
     refine M.sap (e := 40) (size := 4) (base := w.heap.size) (m := 1) (v := .slice A1_5 n1_5 c1_5) (c := 1) s165 rfl rfl rfl rfl kk kk kk ho171 x164 kk kk (by omega) (by omega) (by have := ((SM.fr (B := B) c61 s165 (in2 (fun kq e => .inl (by cases e; rfl)) (fun kq e => .inr (World.ownsRow.lt ho60 kq e).1)))).size; omega) (.inl (by simp)) (fun g173 cap174 w175 ho176 hg177 hat178 hlt179 s180 => ?_)
     apply F.nx
     have nb181 : Nb B (.slice (some ⟨g173, 0, none⟩) (n1_5 + 1) cap174) := nb_app nb1_5_B (Cur.lt x128) hat178
     have x128 := Cur.grown x128 hg177 nb1_5_B (fun j e => Nat.le_trans hN (World.ownsRow.lt ho171 j e).1)
     have nb182 : Nb b2 (.slice (some ⟨g173, 0, none⟩) (n1_5 + 1) cap174) := nb_app nb1_5_b2 (Nat.lt_of_lt_of_le (blk_lt x6) (s165).size) hat178
     have ho176 := own_snocV (x := (Vv.mk (d1 + 1 + x53) x68.id x116 false)) ho176
     have sp184 := sp_app (v' := .slice (some ⟨g173, 0, none⟩) (n1_5 + 1) cap174) sq1_0_5 rd62 ((s165).size) (hat3 (v := .slice A1_5 n1_5 c1_5) hat178)
     refine Fa (.slice (some ⟨g173, 0, none⟩) (n1_5 + 1) cap174) ?_
     apply F.es
     have x6 := SM.blk s180 x6 (ne2 (fun e9 => ne10 (Option.some.inj e9).symm) nb1_5_b2)
     have c185 := (SM.fr (B := B) c61 s180 (in2 (fun kq e => .inl (by cases e; rfl)) (fun kq e => .inr (World.ownsRow.lt ho60 kq e).1)))
     have rd186 := rd_sepM rd62 s180 (sp2 hsp sq1_0_5)
     exact h14 _ _ _ ⟨(us1 ++ [(Vv.mk (d1 + 1 + x53) x68.id x116 false)]), d1 + 1 + x53, (some ⟨g173, 0, none⟩), (n1_5 + 1), cap174, Kn.of, rfl, (by rw [snoc_lenV]; omega), (⟨by omega, by omega⟩), (Cur.mono x128 (by omega)), x6, ho176, nb181, nb182, rd186, sp184, c185⟩
    refine Fc [.pointer (some ⟨B, 0, none⟩), .int .i64 3] (one_any B N ((k + 12 * i + 6 * j + 2) + 2) 3 _ x67 (by omega) (by omega)) ?_
    rintro e w190 ⟨b187, rfl, _, x192, g191⟩
    have s193 := SM.of_grown s99 g191 (.inl (by simp))
    refine ⟨_, rfl, s193, ?_⟩
    apply F.nx
    have ho194 := own_grown ho105 g191 (fun j e1 e2 => by cases e2; exact nb1_5_B e1.symm)
    have rd195 := rd_sepG rd112 g191 sp114
    rcases Bool.eq_false_or_eq_true b187 with q196 | q196
    ·rw [q196]
     have hc197 : w190.cell? ⟨b118, o119 + j, none⟩ = some (.int .i64 x116) := by obtain ⟨_, _, hA9, _, hc9⟩ := Rd.elInt rd195 hx117; rw [hA120] at hA9; cases hA9; exact hc9
     refine W.slq (v := .int .i64 x116) s193 rfl (r_load rfl kk kk (eqS hc197)) kk rfl ?_
     apply F.nx
     refine Fq (.agg #[.int .i64 (d1 + 1 + x53), .int .i64 x68.id, .int .i64 x116, .bool true]) (r_build rfl (vs := [(0, .int .i64 (d1 + 1 + x53)), (1, .int .i64 x68.id), (2, .int .i64 x116), (3, .bool true)]) kk kk) ?_
     refine M.sn (fun b => .slice (some ⟨b, 0, none⟩) 1 1) #[.int .i64 (d1 + 1 + x53), .int .i64 x68.id, .int .i64 x116, .bool true] 40 s193 rfl kk rfl (fun _ => by kernel_rfl) (fun b198 w199 hb200 k201 x202 s203 => ?_)
     apply F.nx
     have lo204 : w.heap.size ≤ b198 := Nl ((SM.fr (B := B) c61 s193 (in2 (fun kq e => .inl (by cases e; rfl)) (fun kq e => .inr (World.ownsRow.lt ho60 kq e).1)))).size (Nat.le_of_eq hb200)
     have x192 := Cur.below x192 k201
     have ho209 := own_kept ho194 k201
     refine M.sap (e := 40) (size := 4) (base := w.heap.size) (m := 1) (v := .slice A1_5 n1_5 c1_5) (c := 1) s203 rfl rfl rfl rfl kk kk kk ho209 x202 kk kk (by omega) (by omega) (by have := ((SM.fr (B := B) c61 s203 (in2 (fun kq e => .inl (by cases e; rfl)) (fun kq e => .inr (World.ownsRow.lt ho60 kq e).1)))).size; omega) (.inl (by simp)) (fun g211 cap212 w213 ho214 hg215 hat216 hlt217 s218 => ?_)
     apply F.nx
     have nb219 : Nb B (.slice (some ⟨g211, 0, none⟩) (n1_5 + 1) cap212) := nb_app nb1_5_B (Cur.lt x192) hat216
     have x192 := Cur.grown x192 hg215 nb1_5_B (fun j e => Nat.le_trans hN (World.ownsRow.lt ho209 j e).1)
     have nb220 : Nb b2 (.slice (some ⟨g211, 0, none⟩) (n1_5 + 1) cap212) := nb_app nb1_5_b2 (Nat.lt_of_lt_of_le (blk_lt x6) (s203).size) hat216
     have ho214 := own_snocV (x := (Vv.mk (d1 + 1 + x53) x68.id x116 true)) ho214
     have sp222 := sp_app (v' := .slice (some ⟨g211, 0, none⟩) (n1_5 + 1) cap212) sq1_0_5 rd62 ((s203).size) (hat3 (v := .slice A1_5 n1_5 c1_5) hat216)
     refine Fa (.slice (some ⟨g211, 0, none⟩) (n1_5 + 1) cap212) ?_
     apply F.es
     have x6 := SM.blk s218 x6 (ne2 (fun e9 => ne10 (Option.some.inj e9).symm) nb1_5_b2)
     have c223 := (SM.fr (B := B) c61 s218 (in2 (fun kq e => .inl (by cases e; rfl)) (fun kq e => .inr (World.ownsRow.lt ho60 kq e).1)))
     have rd224 := rd_sepM rd62 s218 (sp2 hsp sq1_0_5)
     exact h14 _ _ _ ⟨(us1 ++ [(Vv.mk (d1 + 1 + x53) x68.id x116 true)]), d1 + 1 + x53, (some ⟨g211, 0, none⟩), (n1_5 + 1), cap212, Kn.of, rfl, (by rw [snoc_lenV]; omega), (⟨by omega, by omega⟩), (Cur.mono x192 (by omega)), x6, ho214, nb219, nb220, rd224, sp222, c223⟩
    rw [q196]
    have hc225 : w190.cell? ⟨b118, o119 + j, none⟩ = some (.int .i64 x116) := by obtain ⟨_, _, hA9, _, hc9⟩ := Rd.elInt rd195 hx117; rw [hA120] at hA9; cases hA9; exact hc9
    refine W.slq (v := .int .i64 x116) s193 rfl (r_load rfl kk kk (eqS hc225)) kk rfl ?_
    apply F.nx
    refine Fq (.agg #[.int .i64 (d1 + 1 + x53), .int .i64 x68.id, .int .i64 x116, .bool false]) (r_build rfl (vs := [(0, .int .i64 (d1 + 1 + x53)), (1, .int .i64 x68.id), (2, .int .i64 x116), (3, .bool false)]) kk kk) ?_
    refine M.sn (fun b => .slice (some ⟨b, 0, none⟩) 1 1) #[.int .i64 (d1 + 1 + x53), .int .i64 x68.id, .int .i64 x116, .bool false] 40 s193 rfl kk rfl (fun _ => by kernel_rfl) (fun b226 w227 hb228 k229 x230 s231 => ?_)
    apply F.nx
    have lo232 : w.heap.size ≤ b226 := Nl ((SM.fr (B := B) c61 s193 (in2 (fun kq e => .inl (by cases e; rfl)) (fun kq e => .inr (World.ownsRow.lt ho60 kq e).1)))).size (Nat.le_of_eq hb228)
    have x192 := Cur.below x192 k229
    have ho237 := own_kept ho194 k229
    refine M.sap (e := 40) (size := 4) (base := w.heap.size) (m := 1) (v := .slice A1_5 n1_5 c1_5) (c := 1) s231 rfl rfl rfl rfl kk kk kk ho237 x230 kk kk (by omega) (by omega) (by have := ((SM.fr (B := B) c61 s231 (in2 (fun kq e => .inl (by cases e; rfl)) (fun kq e => .inr (World.ownsRow.lt ho60 kq e).1)))).size; omega) (.inl (by simp)) (fun g239 cap240 w241 ho242 hg243 hat244 hlt245 s246 => ?_)
    apply F.nx
    have nb247 : Nb B (.slice (some ⟨g239, 0, none⟩) (n1_5 + 1) cap240) := nb_app nb1_5_B (Cur.lt x192) hat244
    have x192 := Cur.grown x192 hg243 nb1_5_B (fun j e => Nat.le_trans hN (World.ownsRow.lt ho237 j e).1)
    have nb248 : Nb b2 (.slice (some ⟨g239, 0, none⟩) (n1_5 + 1) cap240) := nb_app nb1_5_b2 (Nat.lt_of_lt_of_le (blk_lt x6) (s231).size) hat244
    have ho242 := own_snocV (x := (Vv.mk (d1 + 1 + x53) x68.id x116 false)) ho242
    have sp250 := sp_app (v' := .slice (some ⟨g239, 0, none⟩) (n1_5 + 1) cap240) sq1_0_5 rd62 ((s231).size) (hat3 (v := .slice A1_5 n1_5 c1_5) hat244)
    refine Fa (.slice (some ⟨g239, 0, none⟩) (n1_5 + 1) cap240) ?_
    apply F.es
    have x6 := SM.blk s246 x6 (ne2 (fun e9 => ne10 (Option.some.inj e9).symm) nb1_5_b2)
    have c251 := (SM.fr (B := B) c61 s246 (in2 (fun kq e => .inl (by cases e; rfl)) (fun kq e => .inr (World.ownsRow.lt ho60 kq e).1)))
    have rd252 := rd_sepM rd62 s246 (sp2 hsp sq1_0_5)
    exact h14 _ _ _ ⟨(us1 ++ [(Vv.mk (d1 + 1 + x53) x68.id x116 false)]), d1 + 1 + x53, (some ⟨g239, 0, none⟩), (n1_5 + 1), cap240, Kn.of, rfl, (by rw [snoc_lenV]; omega), (⟨by omega, by omega⟩), (Cur.mono x192 (by omega)), x6, ho242, nb247, nb248, rd252, sp250, c251⟩
   refine Fc [.pointer (some ⟨B, 0, none⟩), .int .i64 3] (one_any B N ((k + 12 * i + 6 * j + 2) + 2) 3 _ x67 (by omega) (by omega)) ?_
   rintro e w256 ⟨b253, rfl, _, x258, g257⟩
   have s259 := SM.of_grown s65 g257 (.inl (by simp))
   refine ⟨_, rfl, s259, ?_⟩
   apply F.nx
   have ho260 := own_grown ho66 g257 (fun j e1 e2 => by cases e2; exact nb1_5_B e1.symm)
   rcases Bool.eq_false_or_eq_true b253 with q261 | q261
   ·rw [q261]
    refine M.sn (fun b => .slice (some ⟨b, 0, none⟩) 2 2) #[.int .i64 x68.fr, .int .i64 x68.to] 3 s259 rfl kk rfl (fun _ => by kernel_rfl) (fun b262 w263 hb264 k265 x266 s267 => ?_)
    apply F.nx
    have lo268 : w.heap.size ≤ b262 := Nl ((SM.fr (B := B) c61 s259 (in2 (fun kq e => .inl (by cases e; rfl)) (fun kq e => .inr (World.ownsRow.lt ho60 kq e).1)))).size (Nat.le_of_eq hb264)
    have x258 := Cur.below x258 k265
    have ho273 := own_kept ho260 k265
    have ho274 := own_blk (base := w.heap.size) (size := 1) (n := 2) x266 lo268 rfl (by omega)
    replace ho274 : World.ownsRow _ _ _ _ _ _ (intsV [x68.fr, x68.to]) := ho274
    have rd280 := own_rd ho274
    have hl281 := rd_ints_len rd280
    obtain ⟨x284, hx285⟩ := get_of (zs := [x68.fr, x68.to]) (k := j) (by have := hl281; omega)
    obtain ⟨b286, o287, hA288, hb289, hc290⟩ := Rd.elInt rd280 hx285
    refine Fq (.pointer (some ⟨b286, o287 + j, none⟩)) (r_idx1 (n := 2) (c := 2) (k := j) rfl ek hA288 kk kk (by have := hl281; omega)) ?_
    refine W.slq (v := .int .i64 x284) s267 rfl (r_load rfl kk kk (eqS hc290)) kk rfl ?_
    apply F.nx
    refine Fq (.agg #[.int .i64 (d1 + 1 + x53), .int .i64 x68.id, .int .i64 x284, .bool true]) (r_build rfl (vs := [(0, .int .i64 (d1 + 1 + x53)), (1, .int .i64 x68.id), (2, .int .i64 x284), (3, .bool true)]) kk kk) ?_
    refine M.sn (fun b => .slice (some ⟨b, 0, none⟩) 1 1) #[.int .i64 (d1 + 1 + x53), .int .i64 x68.id, .int .i64 x284, .bool true] 40 s267 rfl kk rfl (fun _ => by kernel_rfl) (fun b291 w292 hb293 k294 x295 s296 => ?_)
    apply F.nx
    have lo297 : w.heap.size ≤ b291 := Nl ((SM.fr (B := B) c61 s267 (in2 (fun kq e => .inl (by cases e; rfl)) (fun kq e => .inr (World.ownsRow.lt ho60 kq e).1)))).size (Nat.le_of_eq hb293)
    have x258 := Cur.below x258 k294
    have ho302 := own_kept ho273 k294
    refine M.sap (e := 40) (size := 4) (base := w.heap.size) (m := 1) (v := .slice A1_5 n1_5 c1_5) (c := 1) s296 rfl rfl rfl rfl kk kk kk ho302 x295 kk kk (by omega) (by omega) (by have := ((SM.fr (B := B) c61 s296 (in2 (fun kq e => .inl (by cases e; rfl)) (fun kq e => .inr (World.ownsRow.lt ho60 kq e).1)))).size; omega) (.inl (by simp)) (fun g304 cap305 w306 ho307 hg308 hat309 hlt310 s311 => ?_)
    apply F.nx
    have nb312 : Nb B (.slice (some ⟨g304, 0, none⟩) (n1_5 + 1) cap305) := nb_app nb1_5_B (Cur.lt x258) hat309
    have x258 := Cur.grown x258 hg308 nb1_5_B (fun j e => Nat.le_trans hN (World.ownsRow.lt ho302 j e).1)
    have nb313 : Nb b2 (.slice (some ⟨g304, 0, none⟩) (n1_5 + 1) cap305) := nb_app nb1_5_b2 (Nat.lt_of_lt_of_le (blk_lt x6) (s296).size) hat309
    have ho307 := own_snocV (x := (Vv.mk (d1 + 1 + x53) x68.id x284 true)) ho307
    have sp315 := sp_app (v' := .slice (some ⟨g304, 0, none⟩) (n1_5 + 1) cap305) sq1_0_5 rd62 ((s296).size) (hat3 (v := .slice A1_5 n1_5 c1_5) hat309)
    refine Fa (.slice (some ⟨g304, 0, none⟩) (n1_5 + 1) cap305) ?_
    apply F.es
    have x6 := SM.blk s311 x6 (ne2 (fun e9 => ne10 (Option.some.inj e9).symm) nb1_5_b2)
    have c316 := (SM.fr (B := B) c61 s311 (in2 (fun kq e => .inl (by cases e; rfl)) (fun kq e => .inr (World.ownsRow.lt ho60 kq e).1)))
    have rd317 := rd_sepM rd62 s311 (sp2 hsp sq1_0_5)
    exact h14 _ _ _ ⟨(us1 ++ [(Vv.mk (d1 + 1 + x53) x68.id x284 true)]), d1 + 1 + x53, (some ⟨g304, 0, none⟩), (n1_5 + 1), cap305, Kn.of, rfl, (by rw [snoc_lenV]; omega), (⟨by omega, by omega⟩), (Cur.mono x258 (by omega)), x6, ho307, nb312, nb313, rd317, sp315, c316⟩
   rw [q261]
   refine M.sn (fun b => .slice (some ⟨b, 0, none⟩) 2 2) #[.int .i64 x68.fr, .int .i64 x68.to] 3 s259 rfl kk rfl (fun _ => by kernel_rfl) (fun b318 w319 hb320 k321 x322 s323 => ?_)
   apply F.nx
   have lo324 : w.heap.size ≤ b318 := Nl ((SM.fr (B := B) c61 s259 (in2 (fun kq e => .inl (by cases e; rfl)) (fun kq e => .inr (World.ownsRow.lt ho60 kq e).1)))).size (Nat.le_of_eq hb320)
   have x258 := Cur.below x258 k321
   have ho329 := own_kept ho260 k321
   have ho330 := own_blk (base := w.heap.size) (size := 1) (n := 2) x322 lo324 rfl (by omega)
   replace ho330 : World.ownsRow _ _ _ _ _ _ (intsV [x68.fr, x68.to]) := ho330
   have rd336 := own_rd ho330
   have hl337 := rd_ints_len rd336
   obtain ⟨x340, hx341⟩ := get_of (zs := [x68.fr, x68.to]) (k := j) (by have := hl337; omega)
   obtain ⟨b342, o343, hA344, hb345, hc346⟩ := Rd.elInt rd336 hx341
   refine Fq (.pointer (some ⟨b342, o343 + j, none⟩)) (r_idx1 (n := 2) (c := 2) (k := j) rfl ek hA344 kk kk (by have := hl337; omega)) ?_
   refine W.slq (v := .int .i64 x340) s323 rfl (r_load rfl kk kk (eqS hc346)) kk rfl ?_
   apply F.nx
   refine Fq (.agg #[.int .i64 (d1 + 1 + x53), .int .i64 x68.id, .int .i64 x340, .bool false]) (r_build rfl (vs := [(0, .int .i64 (d1 + 1 + x53)), (1, .int .i64 x68.id), (2, .int .i64 x340), (3, .bool false)]) kk kk) ?_
   refine M.sn (fun b => .slice (some ⟨b, 0, none⟩) 1 1) #[.int .i64 (d1 + 1 + x53), .int .i64 x68.id, .int .i64 x340, .bool false] 40 s323 rfl kk rfl (fun _ => by kernel_rfl) (fun b347 w348 hb349 k350 x351 s352 => ?_)
   apply F.nx
   have lo353 : w.heap.size ≤ b347 := Nl ((SM.fr (B := B) c61 s323 (in2 (fun kq e => .inl (by cases e; rfl)) (fun kq e => .inr (World.ownsRow.lt ho60 kq e).1)))).size (Nat.le_of_eq hb349)
   have x258 := Cur.below x258 k350
   have ho358 := own_kept ho329 k350
   refine M.sap (e := 40) (size := 4) (base := w.heap.size) (m := 1) (v := .slice A1_5 n1_5 c1_5) (c := 1) s352 rfl rfl rfl rfl kk kk kk ho358 x351 kk kk (by omega) (by omega) (by have := ((SM.fr (B := B) c61 s352 (in2 (fun kq e => .inl (by cases e; rfl)) (fun kq e => .inr (World.ownsRow.lt ho60 kq e).1)))).size; omega) (.inl (by simp)) (fun g360 cap361 w362 ho363 hg364 hat365 hlt366 s367 => ?_)
   apply F.nx
   have nb368 : Nb B (.slice (some ⟨g360, 0, none⟩) (n1_5 + 1) cap361) := nb_app nb1_5_B (Cur.lt x258) hat365
   have x258 := Cur.grown x258 hg364 nb1_5_B (fun j e => Nat.le_trans hN (World.ownsRow.lt ho358 j e).1)
   have nb369 : Nb b2 (.slice (some ⟨g360, 0, none⟩) (n1_5 + 1) cap361) := nb_app nb1_5_b2 (Nat.lt_of_lt_of_le (blk_lt x6) (s352).size) hat365
   have ho363 := own_snocV (x := (Vv.mk (d1 + 1 + x53) x68.id x340 false)) ho363
   have sp371 := sp_app (v' := .slice (some ⟨g360, 0, none⟩) (n1_5 + 1) cap361) sq1_0_5 rd62 ((s352).size) (hat3 (v := .slice A1_5 n1_5 c1_5) hat365)
   refine Fa (.slice (some ⟨g360, 0, none⟩) (n1_5 + 1) cap361) ?_
   apply F.es
   have x6 := SM.blk s367 x6 (ne2 (fun e9 => ne10 (Option.some.inj e9).symm) nb1_5_b2)
   have c372 := (SM.fr (B := B) c61 s367 (in2 (fun kq e => .inl (by cases e; rfl)) (fun kq e => .inr (World.ownsRow.lt ho60 kq e).1)))
   have rd373 := rd_sepM rd62 s367 (sp2 hsp sq1_0_5)
   exact h14 _ _ _ ⟨(us1 ++ [(Vv.mk (d1 + 1 + x53) x68.id x340 false)]), d1 + 1 + x53, (some ⟨g360, 0, none⟩), (n1_5 + 1), cap361, Kn.of, rfl, (by rw [snoc_lenV]; omega), (⟨by omega, by omega⟩), (Cur.mono x258 (by omega)), x6, ho363, nb368, nb369, rd373, sp371, c372⟩
  refine Fq (.bool false) (r_lss (m := (j : Int)) (n := 2) rfl ek ek (df q33)) ?_
  apply F.es
  apply h13
  refine wp_cond_false ek ?_
  refine wp_exit ?_
  apply h9
  refine Rq 3 ?_
  refine Fv (.int .i64 (i : Int)) ?_
  refine Fq (.int .i64 ((i + 1 : Nat) : Int)) (r_add (m := (i : Int)) (n := 1) (z := ((i + 1 : Nat) : Int)) rfl ek ek (by omega) (by omega)) ?_
  refine Fa (.int .i64 ((i + 1 : Nat) : Int)) ?_
  apply F.es
  exact h6 _ _ _ (by omega : (n - (i + 1)) < _) ⟨i + 1, d1, us1, A1_5, n1_5, c1_5, Kn.of, rfl, (by omega), (⟨by omega, by omega⟩), (by omega), (Cur.mono hc (by omega)), x6, ho1_5, nb1_5_B, nb1_5_b2, kl1_0, sq1_0_5, c32⟩
 refine Fq (.bool false) (r_lss (m := (i : Int)) (n := (n : Int)) rfl ek ek (df q31)) ?_
 apply F.es
 apply h8
 refine wp_cond_false ek ?_
 refine wp_exit ?_
 apply h4
 refine wk fun K18 h18 => ?_
 refine wk fun K19 h19 => ?_
 refine W.region_plain (row := (some B)) [(0, false), (1, true)] kk ?_
 have s374 := SG.self wl0 (some B)
 refine Fv (.pointer (some ⟨B, 0, none⟩)) ?_
 refine Fc [.pointer (some ⟨B, 0, none⟩), .int .i64 24] (pick_any B N (k + 12 * i) 24 _ hc (by omega) (by omega)) ?_
 rintro e w378 ⟨x375, rfl, hx376, x380, g379⟩
 have s381 := SG.of_grown s374 g379 (.inl rfl)
 refine ⟨_, rfl, s381, ?_⟩
 apply F.nx
 have ho382 := own_grown ho0_5 g379 (fun j e1 e2 => by cases e2; exact nb0_5_B e1.symm)
 apply F.es
 have x6 := Sk s381 x6 (fun e9 => ne10 (Option.some.inj e9).symm)
 have c383 := (SG.fr (B := B) c30 s381 (fun kq e => .inl (by cases e; rfl)))
 have rd384 := rd_sep kl0_0 s381 hsp
 apply h19
 refine wp_block ?_
 refine wk fun K20 h20 => ?_
 refine Rq 2 ?_
 by_cases q385 : (x375 : Int) = (0 : Int)
 ·refine Fq (.bool true) (r_eql (m := x375) (n := 0) rfl ek ek (dt q385)) ?_
  refine Fa (.bool true) ?_
  apply F.es
  apply h20
  refine wp_cond_true ek ?_
  refine M.region_sch (row := [(some B), (Value.ownBlock (.slice A0_5 n0_5 c0_5))]) (Sch.of [(0, false), (1, false), (4, false), (5, false), (7, false), (8, false), (2, true), (3, true), (6, true), (9, true), (10, false), (11, true), (12, true), (13, false)]) kk kk (fun _ d _ _ _ h => by cases d <;> exact h) kk (fun w386 e387 s388 => ?_)
  have ho389 := own_heap ho382 e387
  have x390 := Cur.heap x380 e387
  refine Fv (.slice A0_5 n0_5 c0_5) ?_
  refine Fv (.pointer (some ⟨B, 0, none⟩)) ?_
  refine Fv (.pointer (some ⟨B, 0, none⟩)) ?_
  refine Fq (.agg #[.int .i64 m, .slice A n c]) (r_load2 rfl ek kk kk (smS (blk_cell (j := 0) x6 kk) (ne2 (fun e9 => ne10 (Option.some.inj e9).symm) nb0_5_b2)) (smS (blk_cell (j := 1) x6 kk) (ne2 (fun e9 => ne10 (Option.some.inj e9).symm) nb0_5_b2))) ?_
  refine Fv (.pointer (some ⟨B, 0, none⟩)) ?_
  refine Fq (.agg #[.int .i64 m, .slice A n c]) (r_load2 rfl ek kk kk (smS (blk_cell (j := 0) x6 kk) (ne2 (fun e9 => ne10 (Option.some.inj e9).symm) nb0_5_b2)) (smS (blk_cell (j := 1) x6 kk) (ne2 (fun e9 => ne10 (Option.some.inj e9).symm) nb0_5_b2))) ?_
  refine M.sn (fun b => .slice (some ⟨b, 0, none⟩) 3 3) #[.int .i64 99, .int .i64 100, .int .i64 1] 3 s388 rfl kk rfl (fun _ => by kernel_rfl) (fun b391 w392 hb393 k394 x395 s396 => ?_)
  apply F.nx
  have lo397 : w.heap.size ≤ b391 := Nl ((SM.fr (B := B) c383 s388 (in2 (fun kq e => .inl (by cases e; rfl)) (fun kq e => .inr (World.ownsRow.lt ho382 kq e).1)))).size (Nat.le_of_eq hb393)
  have ne399 : B ≠ b391 := Nat.ne_of_lt (Nat.lt_of_lt_of_eq (Cur.lt x390) hb393)
  have x390 := Cur.below x390 k394
  have ho402 := own_kept ho389 k394
  refine Fc [.pointer (some ⟨B, 0, none⟩), .slice (some ⟨b391, 0, none⟩) 3 3] (among_any B N (k + 12 * i + 2) (some ⟨b391, 0, none⟩) 3 3 [99, 100, 1] _ x390 (by omega) (rd_blk x395 rfl rfl) (sp_ne (by have := ne399; omega)) (by omega)) ?_
  rintro e w407 ⟨x403, rfl, hx404, x409, g408⟩
  have s410 := SM.of_grown s396 g408 (.inl (by simp))
  refine ⟨_, rfl, s410, ?_⟩
  apply F.nx
  have ho411 := own_grown ho402 g408 (fun j e1 e2 => by cases e2; exact nb0_5_B e1.symm)
  have hb405 := bnd_of (1) 100 hx404 (by decide)
  refine Fc [.pointer (some ⟨B, 0, none⟩), .agg #[.int .i64 m, .slice A n c]] (pipeOf_any B N ((k + 12 * i + 2) + 2) m A n c ps _ x409 (by omega) (rd_sepM rd384 s410 (sp2 hsp sq0_0_5)) hsp (by omega) (by omega)) ?_
  rintro e w415 ⟨x412, rfl, hx413, x417, g416⟩
  have s418 := SM.of_grown s410 g416 (.inl (by simp))
  refine ⟨_, rfl, s418, ?_⟩
  apply F.nx
  have ho419 := own_grown ho411 g416 (fun j e1 e2 => by cases e2; exact nb0_5_B e1.symm)
  refine Fc [.pointer (some ⟨B, 0, none⟩), .agg #[.int .i64 m, .slice A n c]] (nodeOf_any B N (((k + 12 * i + 2) + 2) + 4) m A n c _ x417 (by omega) (by omega)) ?_
  rintro e w423 ⟨x420, rfl, hx421, x425, g424⟩
  have s426 := SM.of_grown s418 g424 (.inl (by simp))
  refine ⟨_, rfl, s426, ?_⟩
  apply F.nx
  have ho427 := own_grown ho419 g424 (fun j e1 e2 => by cases e2; exact nb0_5_B e1.symm)
  refine Fq (.agg #[.int .i64 x403, .int .i64 x412, .int .i64 x420, .bool false]) (r_build rfl (vs := [(0, .int .i64 x403), (1, .int .i64 x412), (2, .int .i64 x420)]) kk kk) ?_
  refine M.sn (fun b => .slice (some ⟨b, 0, none⟩) 1 1) #[.int .i64 x403, .int .i64 x412, .int .i64 x420, .bool false] 40 s426 rfl kk rfl (fun _ => by kernel_rfl) (fun b428 w429 hb430 k431 x432 s433 => ?_)
  apply F.nx
  have lo434 : w.heap.size ≤ b428 := Nl ((SM.fr (B := B) c383 s426 (in2 (fun kq e => .inl (by cases e; rfl)) (fun kq e => .inr (World.ownsRow.lt ho382 kq e).1)))).size (Nat.le_of_eq hb430)
  have x425 := Cur.below x425 k431
  have ho440 := own_kept ho427 k431
  refine M.sap (e := 40) (size := 4) (base := w.heap.size) (m := 1) (v := .slice A0_5 n0_5 c0_5) (c := 1) s433 rfl rfl rfl rfl kk kk kk ho440 x432 kk kk (by omega) (by omega) (by have := ((SM.fr (B := B) c383 s433 (in2 (fun kq e => .inl (by cases e; rfl)) (fun kq e => .inr (World.ownsRow.lt ho382 kq e).1)))).size; omega) (.inl (by simp)) (fun g441 cap442 w443 ho444 hg445 hat446 hlt447 s448 => ?_)
  apply F.nx
  have x425 := Cur.grown x425 hg445 nb0_5_B (fun j e => Nat.le_trans hN (World.ownsRow.lt ho440 j e).1)
  have ho444 := own_snocV (x := (Vv.mk x403 x412 x420 false)) ho444
  refine Fa (.slice (some ⟨g441, 0, none⟩) (n0_5 + 1) cap442) ?_
  apply F.es
  have c454 := (SM.fr (B := B) c383 s448 (in2 (fun kq e => .inl (by cases e; rfl)) (fun kq e => .inr (World.ownsRow.lt ho382 kq e).1)))
  apply h18
  refine wk fun K21 h21 => ?_
  refine Rq 2 ?_
  refine Fv (.slice (some ⟨g441, 0, none⟩) (n0_5 + 1) cap442) ?_
  refine Fa (.slice (some ⟨g441, 0, none⟩) (n0_5 + 1) cap442) ?_
  apply F.es
  apply h21
  refine wp_ret ?_
  try simp only [Exit.then]
  refine ret1 (v := .slice (some ⟨g441, 0, none⟩) (n0_5 + 1) cap442) rfl kk ?_
  exact ⟨_, _, _, (us0 ++ [(Vv.mk x403 x412 x420 false)]), rfl, ⟨ho444, by rw [snoc_lenV]; omega⟩, Cur.mono x425 (by omega), c454⟩
 refine Fq (.bool false) (r_eql (m := x375) (n := 0) rfl ek ek (df q385)) ?_
 refine Fa (.bool false) ?_
 apply F.es
 apply h20
 refine wp_cond_false ek ?_
 refine wk fun K22 h22 => ?_
 refine Rq 2 ?_
 by_cases q456 : (x375 : Int) = (1 : Int)
 ·refine Fq (.bool true) (r_eql (m := x375) (n := 1) rfl ek ek (dt q456)) ?_
  refine Fa (.bool true) ?_
  apply F.es
  apply h22
  refine wp_cond_true ek ?_
  refine wk fun K23 h23 => ?_
  refine Rq 3 ?_
  refine Fv (.slice A0_5 n0_5 c0_5) ?_
  refine Fq (.int .i64 (n0_5 : Int)) (r_len (A := A0_5) (n := n0_5) (c := c0_5) rfl ek kk) ?_
  by_cases q457 : ((n0_5 : Int) : Int) > (0 : Int)
  ·refine Fq (.bool true) (r_gtr (m := (n0_5 : Int)) (n := 0) rfl ek ek (dt q457)) ?_
   apply F.es
   apply h23
   refine wp_cond_true ek ?_
   refine wk fun K24 h24 => ?_
   refine W.region_plain (row := none) [(0, false), (1, false), (2, false), (3, true), (4, true)] kk ?_
   have s458 := SG.self w378 none
   refine Fv (.slice A0_5 n0_5 c0_5) ?_
   obtain ⟨g459, rfl, _, _⟩ := own_addr ho382 (by omega)
   obtain ⟨x460, hx461⟩ := get_of (zs := us0) (k := 0) (by have h9 := rd_valves_len (own_rd ho382); omega)
   refine Fq (.pointer (some ⟨g459, 0 + 0 * 4, none⟩)) (r_idx (n := n0_5) (c := c0_5) (k := 0) (size := 4) rfl ek rfl kk kk (by omega)) ?_
   refine Fq (.agg #[.int .i64 x460.id, .int .i64 x460.pipe, .int .i64 x460.node, .bool x460.shut]) (r_load4 rfl ek kk kk (sgS ((own_atV ho382 hx461).1) (by simp)) (sgS ((own_atV ho382 hx461).2.1) (by simp)) (sgS ((own_atV ho382 hx461).2.2.1) (by simp)) (sgS ((own_atV ho382 hx461).2.2.2) (by simp))) ?_
   refine W.sn (fun b => .pointer (some ⟨b, 0, none⟩)) #[.int .i64 0, .int .i64 0, .int .i64 0, .bool false] 40 s458 rfl kk rfl (fun _ => by kernel_rfl) (fun b462 w463 hb464 k465 x466 s467 => ?_)
   apply F.nx
   have lo468 : w.heap.size ≤ b462 := Nl ((SG.fr (B := B) c383 s458 nkk)).size (Nat.le_of_eq hb464)
   have ne470 : B ≠ b462 := Nat.ne_of_lt (Nat.lt_of_lt_of_eq (Nat.lt_of_lt_of_le (Cur.lt x380) (s458).size) hb464)
   have nb472 : Nb b462 (.slice (some ⟨g459, 0, none⟩) n0_5 c0_5) := nb_hi ho382 (Nat.le_of_eq hb464)
   have ho473 := own_kept ho382 k465
   refine W.ss (v := .agg #[.int .i64 x460.id, .int .i64 x460.pipe, .int .i64 x460.node, .bool x460.shut]) (j := 0) (news := [.int .i64 x460.id, .int .i64 x460.pipe, .int .i64 x460.node, .bool x460.shut]) (cs' := #[.int .i64 x460.id, .int .i64 x460.pipe, .int .i64 x460.node, .bool x460.shut]) s467 rfl kk rfl rfl kk kk x466 kk kk (by simp) kk kk (.inr (Nl (s458).size (Nat.le_of_eq hb464))) (fun w474 g475 x476 s477 => ?_)
   have ho478 := own_grown ho473 g475 (fun j e1 e2 => by cases e2; exact nb472 e1.symm)
   apply F.es
   have x380 := Cur.below x380 (SG.below s477)
   have c479 := (SG.fr (B := B) c383 s477 nkk)
   apply h24
   refine wk fun K25 h25 => ?_
   refine W.region_plain (row := (some b462)) [(0, false), (1, true)] kk ?_
   have s481 := SG.self w474 (some b462)
   refine Fq (.pointer (some ⟨b462, 0, none⟩)) (r_field0 rfl ek kk) ?_
   refine W.ss (v := .int .i64 98) (j := 0) (news := [.int .i64 98]) (cs' := #[.int .i64 98, .int .i64 x460.pipe, .int .i64 x460.node, .bool x460.shut]) s481 rfl kk rfl rfl kk kk x476 kk kk (by simp) kk kk (.inl rfl) (fun w482 g483 x484 s485 => ?_)
   have ho486 := own_grown ho478 g483 (fun j e1 e2 => by cases e2; exact nb472 e1.symm)
   apply F.es
   have x380 := Cur.grown x380 s485 (fun e9 => ne470 (Option.some.inj e9)) (fun j e => by cases e; exact Nat.le_trans hN lo468)
   have c487 := (SG.fr (B := B) c479 s485 (fun kq e => .inr (by cases e; exact lo468)))
   apply h25
   refine W.region_plain (row := (Value.ownBlock (.slice (some ⟨g459, 0, none⟩) n0_5 c0_5))) [(0, false), (1, false), (2, true), (3, true), (4, false)] kk ?_
   have s489 := SG.self w482 (Value.ownBlock (.slice (some ⟨g459, 0, none⟩) n0_5 c0_5))
   refine Fv (.slice (some ⟨g459, 0, none⟩) n0_5 c0_5) ?_
   refine Fq (.agg #[.int .i64 98, .int .i64 x460.pipe, .int .i64 x460.node, .bool x460.shut]) (r_load4 rfl ek kk kk (sgS (blk_cell (j := 0) x484 kk) nb472) (sgS (blk_cell (j := 1) x484 kk) nb472) (sgS (blk_cell (j := 2) x484 kk) nb472) (sgS (blk_cell (j := 3) x484 kk) nb472)) ?_
   refine W.sn (fun b => .slice (some ⟨b, 0, none⟩) 1 1) #[.int .i64 98, .int .i64 x460.pipe, .int .i64 x460.node, .bool x460.shut] 40 s489 rfl kk rfl (fun _ => by kernel_rfl) (fun b490 w491 hb492 k493 x494 s495 => ?_)
   apply F.nx
   have lo496 : w.heap.size ≤ b490 := Nl ((SG.fr (B := B) c487 s489 (fun kq e => .inr (World.ownsRow.lt ho486 kq e).1))).size (Nat.le_of_eq hb492)
   have ho502 := own_kept ho486 k493
   refine W.sap (e := 40) (size := 4) (base := w.heap.size) (m := 1) (v := .slice (some ⟨g459, 0, none⟩) n0_5 c0_5) (c := 1) s495 rfl rfl rfl rfl kk kk kk ho502 x494 kk kk (by omega) (by omega) (by have := ((SG.fr (B := B) c487 s495 (fun kq e => .inr (World.ownsRow.lt ho486 kq e).1))).size; omega) (.inl rfl) (fun g503 cap504 w505 ho506 hg507 hat508 hlt509 s510 => ?_)
   apply F.nx
   have ho506 := own_snocV (x := (Vv.mk 98 x460.pipe x460.node x460.shut)) ho506
   refine Fa (.slice (some ⟨g503, 0, none⟩) (n0_5 + 1) cap504) ?_
   apply F.es
   have x380 := Cur.grown x380 s510 nb0_5_B (fun j e => Nat.le_trans hN (World.ownsRow.lt ho486 j e).1)
   have c516 := (SG.fr (B := B) c487 s510 (fun kq e => .inr (World.ownsRow.lt ho486 kq e).1))
   apply h18
   refine wk fun K26 h26 => ?_
   refine Rq 2 ?_
   refine Fv (.slice (some ⟨g503, 0, none⟩) (n0_5 + 1) cap504) ?_
   refine Fa (.slice (some ⟨g503, 0, none⟩) (n0_5 + 1) cap504) ?_
   apply F.es
   apply h26
   refine wp_ret ?_
   try simp only [Exit.then]
   refine ret1 (v := .slice (some ⟨g503, 0, none⟩) (n0_5 + 1) cap504) rfl kk ?_
   exact ⟨_, _, _, (us0 ++ [(Vv.mk 98 x460.pipe x460.node x460.shut)]), rfl, ⟨ho506, by rw [snoc_lenV]; omega⟩, Cur.mono x380 (by omega), c516⟩
  refine Fq (.bool false) (r_gtr (m := (n0_5 : Int)) (n := 0) rfl ek ek (df q457)) ?_
  apply F.es
  apply h23
  refine wp_cond_false ek ?_
  apply wp_skip
  apply h18
  refine wk fun K27 h27 => ?_
  refine Rq 2 ?_
  refine Fv (.slice A0_5 n0_5 c0_5) ?_
  refine Fa (.slice A0_5 n0_5 c0_5) ?_
  apply F.es
  apply h27
  refine wp_ret ?_
  try simp only [Exit.then]
  refine ret1 (v := .slice A0_5 n0_5 c0_5) rfl kk ?_
  exact ⟨_, _, _, us0, rfl, ⟨ho382, by omega⟩, Cur.mono x380 (by omega), c383⟩
 refine Fq (.bool false) (r_eql (m := x375) (n := 1) rfl ek ek (df q456)) ?_
 refine Fa (.bool false) ?_
 apply F.es
 apply h22
 refine wp_cond_false ek ?_
 apply wp_skip
 apply h18
 refine wk fun K28 h28 => ?_
 refine Rq 2 ?_
 refine Fv (.slice A0_5 n0_5 c0_5) ?_
 refine Fa (.slice A0_5 n0_5 c0_5) ?_
 apply F.es
 apply h28
 refine wp_ret ?_
 try simp only [Exit.then]
 refine ret1 (v := .slice A0_5 n0_5 c0_5) rfl kk ?_
 exact ⟨_, _, _, us0, rfl, ⟨ho382, by omega⟩, Cur.mono x380 (by omega), c383⟩
end Go.Proofs.Ytdbgfejeleafgaa
namespace Go.Proofs.Ytdbgfejeleafgaa
open Go.RowKit
set_option linter.unusedVariables false
def shutX (plan : List Int) (v : Vv) : Vv := { v with shut := v.shut || plan.contains v.id }
def shutV (vs : List Vv) (plan : List Int) : List Vv := vs.map (shutX plan)
theorem shutV_len (vs : List Vv) (plan : List Int) : (shutV vs plan).length = vs.length := by simp [shutV]
theorem shutV_at {vs : List Vv} {plan : List Int} {k : Nat} {x : Vv} (h : vs[k]? = some x) : (shutV vs plan)[k]? = some (shutX plan x) := by simp [shutV, h]
def mixV (vs : List Vv) (plan : List Int) (i : Nat) : List Vv := (shutV vs plan).take i ++ vs.drop i
theorem mixV_zero (vs : List Vv) (plan : List Int) : mixV vs plan 0 = vs := by simp [mixV]
theorem mixV_len (vs : List Vv) (plan : List Int) (i : Nat) : (mixV vs plan i).length = vs.length := by unfold mixV; rw [List.length_append, List.length_take, List.length_drop, shutV_len]; omega
theorem mixV_end {vs : List Vv} {plan : List Int} {i : Nat} (h : vs.length ≤ i) : mixV vs plan i = shutV vs plan := by
  unfold mixV; rw [List.take_of_length_le (by rw [shutV_len]; exact h), List.drop_eq_nil_of_le h, List.append_nil]
theorem mixV_at {vs : List Vv} {plan : List Int} {i : Nat} {x : Vv} (h : vs[i]? = some x) : (mixV vs plan i)[i]? = some x := by
  have hi := (List.getElem?_eq_some_iff.1 h).1
  unfold mixV
  rw [List.getElem?_append_right (by rw [List.length_take, shutV_len]; omega), List.length_take, shutV_len, show i - min i vs.length = 0 by omega, List.getElem?_drop, Nat.add_zero]; exact h
theorem mixV_next {vs : List Vv} {plan : List Int} {i : Nat} {x : Vv} (h : vs[i]? = some x) : mixV vs plan (i + 1) = (mixV vs plan i).set i (shutX plan x) := by
  have hi := (List.getElem?_eq_some_iff.1 h).1
  unfold mixV
  have hd : vs.drop i = x :: vs.drop (i + 1) := by rw [List.drop_eq_getElem_cons hi]; congr 1; exact (List.getElem?_eq_some_iff.1 h).2
  rw [List.take_add_one, shutV_at h, hd, List.set_append_right _ _ (by rw [List.length_take, shutV_len]; omega), List.length_take, shutV_len, show i - min i vs.length = 0 by omega]
  simp
theorem shutX_true {plan : List Int} {x : Vv} (h : x.shut = true ∨ plan.contains x.id = true) : shutX plan x = { x with shut := true } := by
  unfold shutX; rcases h with h | h <;> rw [h] <;> simp
theorem shutX_false {plan : List Int} {x : Vv} (h : x.shut = false) (h' : plan.contains x.id = false) : shutX plan x = { x with shut := false } := by unfold shutX; rw [h, h']; rfl
theorem shutX_no {plan : List Int} {x : Vv} (h : plan.contains x.id = false) : shutX plan x = x := by unfold shutX; rw [h, Bool.or_false]
theorem mixV_skip {vs : List Vv} {plan : List Int} {i : Nat} {x : Vv} (h : vs[i]? = some x) (hc : plan.contains x.id = false) : mixV vs plan (i + 1) = mixV vs plan i := by
  rw [mixV_next h, shutX_no hc]
  apply List.ext_getElem?
  intro j
  have hi := (List.getElem?_eq_some_iff.1 h).1
  by_cases e : j = i
  · subst e; rw [List.getElem?_set_self (by rw [mixV_len]; exact hi), mixV_at h]
  · rw [List.getElem?_set_ne (by omega)]
theorem uniqV_shut {vs : List Vv} (h : uniqV vs) (plan : List Int) : uniqV (shutV vs plan) := fun u v hu hv e1 e2 => by
  obtain ⟨u', hu', rfl⟩ := List.mem_map.1 hu
  obtain ⟨v', hv', rfl⟩ := List.mem_map.1 hv
  rw [h u' v' hu' hv' e1 e2]
theorem reach_mono {E F : Int → Int → Prop} (h : ∀ a b, E a b → F a b) {a b : Int} (hr : Reach E a b) : Reach F a b :=
  reach_closed (S := fun b => Reach F a b) (reach_refl _ _) (fun b c hb he => reach_step hb (h _ _ he)) hr
theorem openQ_shut {vs : List Vv} {plan : List Int} {p : Pp} {v : Int} : openQ (shutV vs plan) true p v = true ↔ ∀ u, u ∈ vs → u.pipe = p.id → u.node = v → u.shut = false ∧ plan.contains u.id = false := by
  unfold openQ blocked shutV
  rw [Bool.not_eq_true', List.any_map]
  show (vs.any (fun u => decide (u.pipe = p.id) && decide (u.node = v) && (!true || (u.shut || plan.contains u.id)))) = false ↔ _
  rw [List.any_eq_false]
  constructor
  · intro h u hu e1 e2
    have := h u hu
    simp only [Bool.and_eq_true, decide_eq_true_eq, Bool.not_true, Bool.false_or, Bool.or_eq_true, not_and, not_or, Bool.not_eq_true] at this
    exact this ⟨e1, e2⟩
  · intro h u hu
    simp only [Bool.and_eq_true, decide_eq_true_eq, Bool.not_true, Bool.false_or, Bool.or_eq_true, not_and, not_or, Bool.not_eq_true]
    exact fun e => h u hu e.1 e.2
theorem shut_link_mono {ps : List Pp} {vs : List Vv} {plan plan' : List Int} (h : ∀ u, u ∈ vs → u.shut = false → plan.contains u.id = true → plan'.contains u.id = true) {a b : Int} (hl : linked ps (openQ (shutV vs plan') true) a b) : linked ps (openQ (shutV vs plan) true) a b := by
  obtain ⟨i, p, v, hp, hv, hq, he⟩ := hl
  refine ⟨i, p, v, hp, hv, openQ_shut.2 (fun u hu e1 e2 => ?_), he⟩
  have := openQ_shut.1 hq u hu e1 e2
  refine ⟨this.1, ?_⟩
  cases hc : plan.contains u.id with
  | false => rfl
  | true => rw [h u hu this.1 hc] at this; exact this.2
noncomputable def cutB (ps : List Pp) (vs : List Vv) (s id : Int) (plan : List Int) : Bool := !rb (linked ps (openQ (shutV vs plan) true)) s (9 + findL ps id)
theorem cut_mono {ps : List Pp} {vs : List Vv} {s id : Int} {plan plan' : List Int} (h : ∀ u, u ∈ vs → u.shut = false → plan.contains u.id = true → plan'.contains u.id = true) (hc : cutB ps vs s id plan = true) : cutB ps vs s id plan' = true := by
  unfold cutB at hc ⊢
  rw [Bool.not_eq_true'] at hc ⊢
  rw [← Bool.not_eq_true] at hc ⊢
  intro hr
  exact hc (rb_iff.2 (reach_mono (fun a b => shut_link_mono h) (rb_iff.1 hr)))
def openIds (vs : List Vv) : List Int := (vs.filter (fun v => !v.shut)).map (fun v => v.id)
theorem openIds_len (vs : List Vv) : (openIds vs).length ≤ vs.length := by unfold openIds; rw [List.length_map]; exact List.length_filter_le _ _
theorem mem_openIds {vs : List Vv} {a : Int} : a ∈ openIds vs ↔ ∃ v, v ∈ vs ∧ v.shut = false ∧ v.id = a := by
  unfold openIds; rw [List.mem_map]
  constructor
  · rintro ⟨v, hv, e⟩; rw [List.mem_filter] at hv; exact ⟨v, hv.1, by simpa using hv.2, e⟩
  · rintro ⟨v, h1, h2, e⟩; exact ⟨v, List.mem_filter.2 ⟨h1, by simpa using h2⟩, e⟩
theorem openIds_yes {vs : List Vv} {i : Nat} {x : Vv} (hx : vs[i]? = some x) (h : x.shut = false) : openIds (vs.take (i + 1)) = openIds (vs.take i) ++ [x.id] := by
  unfold openIds; rw [List.take_add_one, hx, List.filter_append, List.map_append]; simp [h]
theorem openIds_no {vs : List Vv} {i : Nat} {x : Vv} (hx : vs[i]? = some x) (h : x.shut = true) : openIds (vs.take (i + 1)) = openIds (vs.take i) := by
  unfold openIds; rw [List.take_add_one, hx, List.filter_append, List.map_append]; simp [h]
theorem cut_open {ps : List Pp} {vs : List Vv} {s id : Int} {plan : List Int} (hc : cutB ps vs s id plan = true) : cutB ps vs s id (openIds vs) = true :=
  cut_mono (fun u hu h0 _ => List.contains_iff_mem.2 (mem_openIds.2 ⟨u, hu, h0, rfl⟩)) hc
theorem above_at {ps : List Pp} {vs : List Vv} {k : Nat} {u v : Vv} (h : okVTo ps vs vs.length = true) (hu : vs[k]? = some u) (hv : vs[k + 1]? = some v) : u.id < v.id := by
  have h1 := okVTo_at h (List.getElem?_eq_some_iff.1 hv).1
  have := ((okV_iff hv).1 h1).1.2
  rw [above_next hu] at this
  exact of_decide_eq_true this
theorem vids_rise {m : Int} {ps : List Pp} {vs : List Vv} (h : GoodVal m ps vs) : ∀ d k (u v : Vv), vs[k]? = some u → vs[k + d + 1]? = some v → u.id < v.id
  | 0, k, u, v, hu, hv => above_at h.ok hu hv
  | d + 1, k, u, v, hu, hv => by
    have hl := (List.getElem?_eq_some_iff.1 hv).1
    have hm : vs[k + d + 1]? = some vs[k + d + 1] := List.getElem?_eq_getElem (by omega)
    exact Int.lt_trans (vids_rise h d k u _ hu hm) (above_at h.ok hm (by rw [show k + d + 1 + 1 = k + (d + 1) + 1 by omega]; exact hv))
theorem vids_inj {m : Int} {ps : List Pp} {vs : List Vv} (h : GoodVal m ps vs) {u v : Vv} (hu : u ∈ vs) (hv : v ∈ vs) (e : u.id = v.id) : u = v := by
  obtain ⟨i, hi, eu⟩ := List.getElem_of_mem hu
  obtain ⟨j, hj, ev⟩ := List.getElem_of_mem hv
  have hu' : vs[i]? = some u := by rw [List.getElem?_eq_getElem hi, eu]
  have hv' : vs[j]? = some v := by rw [List.getElem?_eq_getElem hj, ev]
  rcases Nat.lt_trichotomy i j with h1 | h1 | h1
  · have := vids_rise h (j - i - 1) i u v hu' (by rw [show i + (j - i - 1) + 1 = j by omega]; exact hv'); omega
  · subst h1; rw [hu'] at hv'; cases hv'; rfl
  · have := vids_rise h (i - j - 1) j v u hv' (by rw [show j + (i - j - 1) + 1 = i by omega]; exact hu'); omega
theorem open_first {m : Int} {ps : List Pp} {vs : List Vv} (h : GoodVal m ps vs) {a : Int} {k : Nat} {x : Vv} (hx : vs[k]? = some x) (e : x.id = a) : (openIds vs).contains a = !x.shut := by
  rw [Bool.eq_iff_iff, List.contains_iff_mem, mem_openIds, Bool.not_eq_true']
  constructor
  · rintro ⟨v, hv, h0, e'⟩
    rw [← vids_inj h hv (List.mem_of_getElem? hx) (e'.trans e.symm)]; exact h0
  · intro h0; exact ⟨x, List.mem_of_getElem? hx, h0, e⟩
theorem open_none {vs : List Vv} {a : Int} (h : idxV (fun v => decide (v.id = a)) vs < 0) : (openIds vs).contains a = false := by
  rw [← Bool.not_eq_true, List.contains_iff_mem, mem_openIds]
  rintro ⟨v, hv, _, e⟩
  have h2 : vs.any (fun v => decide (v.id = a)) = false := by rw [← idxV_pos]; exact decide_eq_false (by omega)
  have := List.any_eq_false.1 h2 v hv
  simp [e] at this
end Go.Proofs.Ytdbgfejeleafgaa
namespace Go.Proofs.Ytdbgfejeleafgaa
open Go.RowKit
set_option linter.unusedVariables false
def choiceTo (l : List Int) (set : Nat) : Nat → List Int
  | 0 => []
  | i + 1 => choiceTo l set i ++ (if set / 2 ^ i % 2 = 1 then [l.getD i 0] else [])
def choice (l : List Int) (set : Nat) : List Int := choiceTo l set l.length
theorem choiceTo_yes {l : List Int} {set i : Nat} {x : Int} (hx : l[i]? = some x) (h : set / 2 ^ i % 2 = 1) : choiceTo l set (i + 1) = choiceTo l set i ++ [x] := by
  rw [choiceTo, if_pos h, List.getD_eq_getElem?_getD, hx]; rfl
theorem choiceTo_no {l : List Int} {set i : Nat} (h : ¬ set / 2 ^ i % 2 = 1) : choiceTo l set (i + 1) = choiceTo l set i := by
  rw [choiceTo, if_neg h, List.append_nil]
theorem choiceTo_mem {l : List Int} {set : Nat} {z : Int} : ∀ {i : Nat}, i ≤ l.length → z ∈ choiceTo l set i → z ∈ l
  | 0, _, h => by simp [choiceTo] at h
  | i + 1, hi, h => by
    unfold choiceTo at h
    rcases List.mem_append.1 h with h | h
    · exact choiceTo_mem (by omega) h
    · split at h
      · simp at h
        have : l[i]? = some l[i] := List.getElem?_eq_getElem (by omega)
        rw [this] at h; simp at h
        exact h ▸ List.getElem_mem (by omega)
      · simp at h
theorem choice_mem {l : List Int} {set : Nat} {z : Int} (h : z ∈ choice l set) : z ∈ l := choiceTo_mem (Nat.le_refl _) h
theorem choiceTo_len (l : List Int) (set : Nat) : ∀ i, (choiceTo l set i).length ≤ i
  | 0 => by simp [choiceTo]
  | i + 1 => by
    have := choiceTo_len l set i
    unfold choiceTo; rw [List.length_append]
    split <;> simp <;> omega
theorem choice_len (l : List Int) (set : Nat) : (choice l set).length ≤ l.length := choiceTo_len l set l.length
def lexL : List Int → List Int → Bool
  | a :: us, b :: ws => if a = b then lexL us ws else decide (a < b)
  | _, _ => false
def lessL (a b : List Int) : Bool := if a.length = b.length then lexL a b else decide (a.length < b.length)
def better (h : List Int → Int) (plan : List Int) (b : List Int × Int) : Bool := decide (h plan < b.2) || (decide (h plan = b.2) && lessL plan b.1)
def bestStep (P : List Int → Bool) (h : List Int → Int) (r : Option (List Int × Int)) (plan : List Int) : Option (List Int × Int) :=
  if P plan = true then (match r with | none => some (plan, h plan) | some b => if better h plan b = true then some (plan, h plan) else some b) else r
def bestTo (P : List Int → Bool) (h : List Int → Int) (l : List Int) : Nat → Option (List Int × Int)
  | 0 => none
  | s + 1 => bestStep P h (bestTo P h l s) (choice l s)
def bestOf (P : List Int → Bool) (h : List Int → Int) (l : List Int) : Option (List Int × Int) := bestTo P h l (2 ^ l.length)
theorem bestTo_next {P : List Int → Bool} {h : List Int → Int} {l : List Int} {s : Nat} {r : Option (List Int × Int)} (e : bestTo P h l s = r) : bestTo P h l (s + 1) = bestStep P h r (choice l s) := by rw [bestTo, e]
theorem bestStep_no {P : List Int → Bool} {h : List Int → Int} {r : Option (List Int × Int)} {plan : List Int} (e : P plan = false) : bestStep P h r plan = r := by unfold bestStep; rw [if_neg (by rw [e]; simp)]
theorem bestStep_first {P : List Int → Bool} {h : List Int → Int} {plan : List Int} (e : P plan = true) : bestStep P h none plan = some (plan, h plan) := by unfold bestStep; rw [if_pos e]
theorem bestStep_yes {P : List Int → Bool} {h : List Int → Int} {plan : List Int} {b : List Int × Int} (e : P plan = true) (hb : better h plan b = true) : bestStep P h (some b) plan = some (plan, h plan) := by unfold bestStep; rw [if_pos e]; simp only [hb, if_true]
theorem bestStep_keep {P : List Int → Bool} {h : List Int → Int} {plan : List Int} {b : List Int × Int} (hb : better h plan b = false) : bestStep P h (some b) plan = some b := by
  unfold bestStep
  split
  · simp only [hb]; rfl
  · rfl
theorem bestTo_none {P : List Int → Bool} {h : List Int → Int} {l : List Int} (hP : ∀ s, P (choice l s) = false) : ∀ s, bestTo P h l s = none
  | 0 => rfl
  | s + 1 => by rw [bestTo_next (bestTo_none hP s), bestStep_no (hP s)]
theorem bestTo_in {P : List Int → Bool} {h : List Int → Int} {l : List Int} {b : List Int × Int} : ∀ {s : Nat}, bestTo P h l s = some b → ∃ t, t < s ∧ b.1 = choice l t ∧ P b.1 = true ∧ b.2 = h b.1
  | 0, e => by cases e
  | s + 1, e => by
    by_cases hP : P (choice l s) = true
    · cases hr : bestTo P h l s with
      | none => rw [bestTo_next hr, bestStep_first hP] at e; cases e; exact ⟨s, by omega, rfl, hP, rfl⟩
      | some c =>
        by_cases hb : better h (choice l s) c = true
        · rw [bestTo_next hr, bestStep_yes hP hb] at e; cases e; exact ⟨s, by omega, rfl, hP, rfl⟩
        · rw [bestTo_next hr, bestStep_keep (by simpa using hb)] at e; cases e
          obtain ⟨t, ht, r⟩ := bestTo_in hr
          exact ⟨t, by omega, r⟩
    · rw [bestTo_next rfl, bestStep_no (by simpa using hP)] at e
      obtain ⟨t, ht, r⟩ := bestTo_in e
      exact ⟨t, by omega, r⟩
theorem bestOf_in {P : List Int → Bool} {h : List Int → Int} {l : List Int} {b : List Int × Int} (e : bestOf P h l = some b) : ∃ t, b.1 = choice l t ∧ P b.1 = true ∧ b.2 = h b.1 := let ⟨t, _, r⟩ := bestTo_in e; ⟨t, r⟩
theorem bestOf_len {P : List Int → Bool} {h : List Int → Int} {l : List Int} {b : List Int × Int} (e : bestOf P h l = some b) : b.1.length ≤ l.length := by
  obtain ⟨t, h1, _⟩ := bestOf_in e; rw [h1]; exact choice_len l t
theorem bestTo_mono {P : List Int → Bool} {h : List Int → Int} {l : List Int} {s : Nat} (e : bestTo P h l s ≠ none) : ∀ d, bestTo P h l (s + d) ≠ none
  | 0 => e
  | d + 1 => by
    have := bestTo_mono e d
    cases hr : bestTo P h l (s + d) with
    | none => exact absurd hr this
    | some c =>
      rw [← Nat.add_assoc, bestTo_next hr]
      unfold bestStep
      split
      · simp only []; split <;> simp
      · simp
theorem bestOf_some {P : List Int → Bool} {h : List Int → Int} {l : List Int} {t : Nat} (ht : t < 2 ^ l.length) (hP : P (choice l t) = true) : bestOf P h l ≠ none := by
  have h1 : bestTo P h l (t + 1) ≠ none := by
    cases hr : bestTo P h l t with
    | none => rw [bestTo_next hr, bestStep_first hP]; simp
    | some c => rw [bestTo_next hr]; unfold bestStep; rw [if_pos hP]; simp only []; split <;> simp
  have := bestTo_mono h1 (2 ^ l.length - (t + 1))
  rwa [show t + 1 + (2 ^ l.length - (t + 1)) = 2 ^ l.length by omega] at this
def cmpL : List Int → List Int → Int
  | [], [] => 0
  | [], _ :: _ => -1
  | _ :: _, [] => 1
  | a :: us, b :: ws => if a < b then -1 else if b < a then 1 else cmpL us ws
theorem cmpL_lex : ∀ {a b : List Int}, a.length = b.length → decide (cmpL a b < 0) = lexL a b
  | [], [], _ => rfl
  | [], _ :: _, h => by simp at h
  | _ :: _, [], h => by simp at h
  | a :: us, b :: ws, h => by
    have ih := cmpL_lex (a := us) (b := ws) (by simpa using h)
    unfold cmpL lexL
    by_cases h1 : a < b
    · rw [if_pos h1, if_neg (by omega), decide_eq_true h1]; rfl
    · rw [if_neg h1]
      by_cases h2 : b < a
      · rw [if_pos h2, if_neg (by omega), decide_eq_false h1]; rfl
      · rw [if_neg h2, if_pos (by omega)]; exact ih
theorem cmpL_two (o n l k : Int) : cmpL [o, n] [l, k] = if o < l then -1 else if l < o then 1 else if n < k then -1 else if k < n then 1 else 0 := rfl
theorem better_cmp {h : List Int → Int} {plan best : List Int} {least : Int} : better h plan (best, least) = (decide (cmpL [h plan, (plan.length : Int)] [least, (best.length : Int)] < 0) || (decide (cmpL [h plan, (plan.length : Int)] [least, (best.length : Int)] = 0) && decide (cmpL plan best < 0))) := by
  unfold better lessL
  rw [cmpL_two]
  by_cases h1 : h plan < least
  · rw [if_pos h1, decide_eq_true h1]; rfl
  · rw [if_neg h1, decide_eq_false h1, Bool.false_or]
    by_cases h2 : least < h plan
    · rw [if_pos h2, decide_eq_false (by omega)]; rfl
    · rw [if_neg h2, decide_eq_true (by omega), Bool.true_and]
      by_cases h3 : plan.length = best.length
      · rw [if_pos h3, if_neg (by omega), if_neg (by omega), ← cmpL_lex h3]; rfl
      · rw [if_neg h3]
        by_cases h4 : plan.length < best.length
        · rw [if_pos (by omega), decide_eq_true h4]; rfl
        · rw [if_neg (by omega), if_pos (by omega), decide_eq_false h4]; rfl
end Go.Proofs.Ytdbgfejeleafgaa
