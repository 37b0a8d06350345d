/- A network is valid: the program's own test. -/
import Derived.Test.YtdlcldaogcbnlaaDoorNetA
import Derived.Test.YtdlcldaogcbnlaaDoorFr2
namespace Go.Proofs.YtdlcldaogcbnlaaDoor
open Go.RowKit
set_option linter.unusedVariables false

set_option maxRecDepth 100000 in
set_option maxHeartbeats 8000000 in
theorem IsValid_any (m : Int) (A : Option Addr) (n c : Nat) (ps : List Pp) (w : World) (ha : Rd w 4 A n (pipesV ps)) (hn : n ≤ 1048576) :
    Calls Tryd.prog 15 #[.agg #[.int .i64 m, .slice A n c]] w fun e w' => e = .returned (.bool (goodN m ps)) ∧ Below w.heap.size w w' := by
 have hl := rd_pipes_len ha
 go_enter Tryd.func15, Tryd.ntmps15
 refine F.begin 71 [(0, .agg #[.int .i64 m, .slice A n c])] (fun U0 => ?_)
 refine wk fun K1 h1 => ?_
 refine W.region_plain (row := none) [(0, true), (1, false)] kk ?_
 have s1 := SG.self w none
 refine W.sn (fun b => .pointer (some ⟨b, 0, none⟩)) #[.int .i64 m, .slice A n c] 24 s1 rfl kk rfl (fun _ => by kernel_rfl) (fun b2 w3 hb4 k5 x6 s7 => ?_)
 refine F.nx ?_
 have lo8 : w.heap.size ≤ b2 := Nat.le_trans ((SG.belowR (Below.refl _ _) s1 (fun kq e => by cases e))).size (Nat.le_of_eq hb4)
 refine Fa (.bool false) ?_
 refine F.es ?_
 have c9 := (SG.belowR (Below.refl _ _) s7 (fun kq e => by cases e))
 refine h1 _ _ ?_
 refine wk fun K2 h2 => ?_
 refine wk fun K3 h3 => ?_
 refine W.region_plain (row := none) [(0, false), (1, false), (2, true), (3, false), (4, false), (5, false), (6, false), (7, false), (8, false), (9, false)] kk ?_
 have s10 := SG.self w3 none
 refine Fq (.pointer (some ⟨b2, 0, none⟩)) (r_field0 rfl ek kk) ?_
 refine Fl (.int .i64 m) (sgS (blk_cell (j := 0) x6 kk) (Option.some_ne_none _)) ?_
 refine Fc [.int .i64 m, .int .i64 1, .int .i64 8] (inside_any m 1 8 _) ?_
 rintro e w' ⟨rfl, rfl⟩
 refine ⟨_, rfl, s10, ?_⟩
 refine F.nx ?_
 rcases Bool.eq_false_or_eq_true (inB m 1 8) with q13 | q13
 ·rw [q13]
  refine Fq (.bool false) (r_not (b := true) rfl ek rfl) ?_
  refine Fv (.bool false) ?_
  refine Fq (.pointer (some ⟨b2, 1, none⟩)) (r_field (k := 1) rfl ek kk) ?_
  refine Fl (.slice A n c) (sgS (blk_cell (j := 1) x6 kk) (Option.some_ne_none _)) ?_
  refine Fq (.int .i64 (n : Int)) (r_len (A := A) (n := n) (c := c) rfl ek kk) ?_
  by_cases q14 : ((n : Int) : Int) > (10 : Int)
  ·refine Fq (.bool true) (r_gtr (m := (n : Int)) (n := 10) rfl ek ek (decide_eq_true q14)) ?_
   refine Fq (.bool true) (r_pick (b := false) rfl ek ek) ?_
   refine F.es ?_
   have x6 := SG.blk s10 x6 (Option.some_ne_none _)
   have c15 := (SG.belowR c9 s10 (fun kq e => by cases e))
   refine h3 _ _ ?_
   refine wp_cond_true ek ?_
   refine wk fun K4 h4 => ?_
   refine W.region_quiet [(0, false)] kk ?_
   refine Fa (.bool false) ?_
   refine F.es ?_
   refine h4 _ _ ?_
   refine wp_ret ?_
   try simp only [Exit.then]
   refine ret1 (v := .bool false) rfl kk ?_
   exact ⟨ret_bool (goodN_out hl (by simp [q13]; omega)).symm, c15⟩
  refine Fq (.bool false) (r_gtr (m := (n : Int)) (n := 10) rfl ek ek (decide_eq_false q14)) ?_
  refine Fq (.bool false) (r_pick (b := false) rfl ek ek) ?_
  refine F.es ?_
  have x6 := SG.blk s10 x6 (Option.some_ne_none _)
  have c16 := (SG.belowR c9 s10 (fun kq e => by cases e))
  refine h3 _ _ ?_
  refine wp_cond_false ek ?_
  refine wp_skip ?_
  refine h2 _ _ ?_
  refine wk fun K5 h5 => ?_
  refine wk fun K6 h6 => ?_
  refine W.region_quiet [(0, false), (1, false), (2, false), (3, false)] kk ?_
  refine Fq (.pointer (some ⟨b2, 1, none⟩)) (r_field (k := 1) rfl ek kk) ?_
  refine Fl (.slice A n c) (eqS (blk_cell (j := 1) x6 kk)) ?_
  refine Fq (.int .i64 (n : Int)) (r_len (A := A) (n := n) (c := c) rfl ek kk) ?_
  refine Fv (.int .i64 0) ?_
  refine F.es ?_
  refine h6 _ _ ?_
  refine wp_block ?_
  refine loopK (fun am0 aa0 wl0 => ∃ (K : Nat) , Kn aa0 [(0, .agg #[.int .i64 m, .slice A n c]), (1, .pointer (some ⟨b2, 0, none⟩)), (2, .bool false), (14, .bool false), (16, .slice A n c), (17, .int .i64 (n : Int)), (18, .int .i64 (K : Int))] 71 ∧ (am0 = n - K) ∧ (K ≤ n) ∧ (okTo m ps K = true) ∧ (wl0.heap[b2]? = some (.cells #[.int .i64 m, .slice A n c] 24 (0, 0))) ∧ (Below w.heap.size w wl0)) (n - 0) ?_ ?_
  ·exact ⟨0, Kn.of, rfl, (Nat.zero_le _), rfl, x6, c16⟩
  rintro am0 aa0 wl0 K7 h7 ⟨K, ⟨U0, rfl⟩, rfl, hk, hok, x6, c17⟩
  refine wk fun K8 h8 => ?_
  refine W.region_quiet [(0, false)] kk ?_
  by_cases q18 : ((K : Int) : Int) < ((n : Int) : Int)
  ·refine Fq (.bool true) (r_lss (m := (K : Int)) (n := (n : Int)) rfl ek ek (decide_eq_true q18)) ?_
   refine F.es ?_
   refine h8 _ _ ?_
   refine wk fun K9 h9 => ?_
   refine wp_cond_true ek ?_
   refine wp_skip ?_
   refine h9 _ _ ?_
   refine wk fun K10 h10 => ?_
   refine wp_block ?_
   refine wk fun K11 h11 => ?_
   refine W.region_plain (row := none) [(0, false), (1, false), (2, false), (3, true), (4, false), (5, true)] kk ?_
   have s19 := SG.self wl0 none
   refine Fv (.int .i64 (K : Int)) ?_
   obtain ⟨x20, hx21⟩ := get_of (zs := ps) (k := K) (by have := hl; omega)
   obtain ⟨b22, o23, hA24, hb25, hc26, hc27, hc28, hc29⟩ := Rd.elPipe ha hx21
   refine Fq (.pointer (some ⟨b22, o23 + K * 4, none⟩)) (r_idx (n := n) (c := c) (k := K) rfl ek hA24 kk kk (by have := hl; omega)) ?_
   refine Fq (.agg #[.int .i64 x20.id, .int .i64 x20.fr, .int .i64 x20.to, .int .i64 x20.sz]) (r_load4 rfl ek kk kk (sgS (later c17 hc26) (by simp)) (sgS (later c17 hc27) (by simp)) (sgS (later c17 hc28) (by simp)) (sgS (later c17 hc29) (by simp))) ?_
   refine W.sn (fun b => .pointer (some ⟨b, 0, none⟩)) #[.int .i64 0, .int .i64 0, .int .i64 0, .int .i64 0] 38 s19 rfl kk rfl (fun _ => by kernel_rfl) (fun b30 w31 hb32 k33 x34 s35 => ?_)
   refine F.nx ?_
   have lo36 : w.heap.size ≤ b30 := Nat.le_trans ((SG.belowR c17 s19 (fun kq e => by cases e))).size (Nat.le_of_eq hb32)
   refine Fa (.int .i64 (K : Int)) ?_
   refine W.ss (v := .agg #[.int .i64 x20.id, .int .i64 x20.fr, .int .i64 x20.to, .int .i64 x20.sz]) (j := 0) (news := [.int .i64 x20.id, .int .i64 x20.fr, .int .i64 x20.to, .int .i64 x20.sz]) (cs' := #[.int .i64 x20.id, .int .i64 x20.fr, .int .i64 x20.to, .int .i64 x20.sz]) s35 rfl kk rfl rfl kk kk x34 kk kk (by simp) kk kk (.inr (Nat.le_trans (s19).size (Nat.le_of_eq hb32))) (fun w38 g39 x40 s41 => ?_)
   refine F.es ?_
   have x6 := SG.blk s41 x6 (Option.some_ne_none _)
   have c42 := (SG.belowR c17 s41 (fun kq e => by cases e))
   refine h11 _ _ ?_
   refine wk fun K12 h12 => ?_
   refine W.region_sch (row := none) (Sch.of [(0, false), (1, false), (2, true), (3, false), (4, false), (5, false), (6, false), (7, false), (8, true), (9, false), (10, false), (11, false), (12, false), (13, false), (14, false), (15, true), (16, false), (17, false), (18, false), (19, false), (20, false), (21, false), (22, false), (23, false), (24, false), (25, false), (26, false), (27, false), (28, true), (29, false), (30, false), (31, false), (32, false), (33, false), (34, false), (35, false), (36, false), (37, false), (38, false), (39, false), (40, false), (41, false), (42, false), (43, false), (44, false), (45, false), (46, false)]) kk kk (fun _ d _ _ _ h => by cases d <;> exact h) kk (fun w43 e44 s45 => ?_)
   refine Fq (.pointer (some ⟨b30, 0, none⟩)) (r_field0 rfl ek kk) ?_
   refine Fl (.int .i64 x20.id) (sgS (blk_cell (j := 0) x40 kk) (Option.some_ne_none _)) ?_
   refine Fc [.int .i64 x20.id, .int .i64 1, .int .i64 99] (inside_any x20.id 1 99 _) ?_
   rintro e w' ⟨rfl, rfl⟩
   refine ⟨_, rfl, s45, ?_⟩
   refine F.nx ?_
   rcases Bool.eq_false_or_eq_true (inB x20.id 1 99) with q48 | q48
   ·rw [q48]
    refine Fq (.bool false) (r_not (b := true) rfl ek rfl) ?_
    refine Fv (.bool false) ?_
    refine Fq (.agg #[.int .i64 m, .slice A n c]) (r_load2 rfl ek kk kk (sgS (blk_cell (j := 0) x6 kk) (Option.some_ne_none _)) (sgS (blk_cell (j := 1) x6 kk) (Option.some_ne_none _))) ?_
    refine Fq (.pointer (some ⟨b30, 1, none⟩)) (r_field (k := 1) rfl ek kk) ?_
    refine Fl (.int .i64 x20.fr) (sgS (blk_cell (j := 1) x40 kk) (Option.some_ne_none _)) ?_
    refine Fc [.agg #[.int .i64 m, .slice A n c], .int .i64 x20.fr] (has_any m A n c ps x20.fr _) ?_
    rintro e w50 ⟨rfl, b49⟩
    have s51 := SG.of_below s45 b49
    refine ⟨_, rfl, s51, ?_⟩
    refine F.nx ?_
    rcases Bool.eq_false_or_eq_true (inB x20.fr 1 m) with q52 | q52
    ·rw [q52]
     refine Fq (.bool false) (r_not (b := true) rfl ek rfl) ?_
     refine Fq (.bool false) (r_pick (b := false) rfl ek ek) ?_
     refine Fv (.bool false) ?_
     refine Fq (.agg #[.int .i64 m, .slice A n c]) (r_load2 rfl ek kk kk (sgS (blk_cell (j := 0) x6 kk) (Option.some_ne_none _)) (sgS (blk_cell (j := 1) x6 kk) (Option.some_ne_none _))) ?_
     refine Fq (.pointer (some ⟨b30, 2, none⟩)) (r_field (k := 2) rfl ek kk) ?_
     refine Fl (.int .i64 x20.to) (sgS (blk_cell (j := 2) x40 kk) (Option.some_ne_none _)) ?_
     refine Fc [.agg #[.int .i64 m, .slice A n c], .int .i64 x20.to] (has_any m A n c ps x20.to _) ?_
     rintro e w54 ⟨rfl, b53⟩
     have s55 := SG.of_below s51 b53
     refine ⟨_, rfl, s55, ?_⟩
     refine F.nx ?_
     rcases Bool.eq_false_or_eq_true (inB x20.to 1 m) with q56 | q56
     ·rw [q56]
      refine Fq (.bool false) (r_not (b := true) rfl ek rfl) ?_
      refine Fq (.bool false) (r_pick (b := false) rfl ek ek) ?_
      refine Fv (.bool false) ?_
      refine Fq (.pointer (some ⟨b30, 1, none⟩)) (r_field (k := 1) rfl ek kk) ?_
      refine Fl (.int .i64 x20.fr) (sgS (blk_cell (j := 1) x40 kk) (Option.some_ne_none _)) ?_
      refine Fq (.pointer (some ⟨b30, 2, none⟩)) (r_field (k := 2) rfl ek kk) ?_
      refine Fl (.int .i64 x20.to) (sgS (blk_cell (j := 2) x40 kk) (Option.some_ne_none _)) ?_
      by_cases q57 : (x20.fr : Int) = (x20.to : Int)
      ·refine Fq (.bool true) (r_eql (m := x20.fr) (n := x20.to) rfl ek ek (decide_eq_true q57)) ?_
       refine Fq (.bool true) (r_pick (b := false) rfl ek ek) ?_
       refine Fv (.bool true) ?_
       refine Fs s55 ?_
       refine Fs s55 ?_
       refine Fs s55 ?_
       refine Fs s55 ?_
       refine Fq (.bool true) (r_pick (b := true) rfl ek ek) ?_
       refine Fv (.bool true) ?_
       refine Fs s55 ?_
       refine Fs s55 ?_
       refine Fs s55 ?_
       refine Fs s55 ?_
       refine Fs s55 ?_
       refine Fs s55 ?_
       refine Fs s55 ?_
       refine Fs s55 ?_
       refine Fs s55 ?_
       refine Fs s55 ?_
       refine Fs s55 ?_
       refine Fs s55 ?_
       refine Fs s55 ?_
       refine Fs s55 ?_
       refine Fq (.bool true) (r_pick (b := true) rfl ek ek) ?_
       refine F.es ?_
       have x6 := SG.blk s55 x6 (Option.some_ne_none _)
       have x40 := SG.blk s55 x40 (Option.some_ne_none _)
       have c58 := (SG.belowR c42 s55 (fun kq e => by cases e))
       refine h12 _ _ ?_
       refine wp_cond_true ek ?_
       refine wk fun K13 h13 => ?_
       refine W.region_quiet [(0, false)] kk ?_
       refine Fa (.bool false) ?_
       refine F.es ?_
       refine h13 _ _ ?_
       refine wp_ret ?_
       try simp only [Exit.then, Exit.inBlock]
       refine ret1 (v := .bool false) rfl kk ?_
       exact ⟨ret_bool (goodN_bad (k := K) (by omega) (okAt_pipe hx21 (by simp [pipeOk, q57]))).symm, c58⟩
      refine Fq (.bool false) (r_eql (m := x20.fr) (n := x20.to) rfl ek ek (decide_eq_false q57)) ?_
      refine Fq (.bool false) (r_pick (b := false) rfl ek ek) ?_
      refine Fv (.bool false) ?_
      refine Fq (.pointer (some ⟨b30, 3, none⟩)) (r_field (k := 3) rfl ek kk) ?_
      refine Fl (.int .i64 x20.sz) (sgS (blk_cell (j := 3) x40 kk) (Option.some_ne_none _)) ?_
      refine Fc [.int .i64 x20.sz, .int .i64 1, .int .i64 9] (inside_any x20.sz 1 9 _) ?_
      rintro e w' ⟨rfl, rfl⟩
      refine ⟨_, rfl, s55, ?_⟩
      refine F.nx ?_
      rcases Bool.eq_false_or_eq_true (inB x20.sz 1 9) with q61 | q61
      ·rw [q61]
       refine Fq (.bool false) (r_not (b := true) rfl ek rfl) ?_
       refine Fq (.bool false) (r_pick (b := false) rfl ek ek) ?_
       refine Fv (.bool false) ?_
       refine Fv (.int .i64 (K : Int)) ?_
       by_cases q62 : ((K : Int) : Int) > (0 : Int)
       ·obtain ⟨k, rfl⟩ : ∃ k, K = k + 1 := ⟨K - 1, by omega⟩
        refine Fq (.bool true) (r_gtr (m := (((k + 1) : Nat) : Int)) (n := 0) rfl ek ek (decide_eq_true q62)) ?_
        refine Fv (.bool true) ?_
        refine Fq (.pointer (some ⟨b2, 1, none⟩)) (r_field (k := 1) rfl ek kk) ?_
        refine Fl (.slice A n c) (sgS (blk_cell (j := 1) x6 kk) (Option.some_ne_none _)) ?_
        refine Fv (.int .i64 (((k + 1) : Nat) : Int)) ?_
        refine Fq (.int .i64 (k : Int)) (r_sub (m := (((k + 1) : Nat) : Int)) (n := 1) (z := (k : Int)) rfl ek ek (by omega) (by omega)) ?_
        obtain ⟨x63, hx64⟩ := get_of (zs := ps) (k := k) (by have := hl; omega)
        obtain ⟨b65, o66, hA67, hb68, hc69, hc70, hc71, hc72⟩ := Rd.elPipe ha hx64
        refine Fq (.pointer (some ⟨b65, o66 + k * 4, none⟩)) (r_idx (n := n) (c := c) (k := k) rfl ek hA67 kk kk (by have := hl; omega)) ?_
        refine Fq (.pointer (some ⟨b65, o66 + k * 4, none⟩)) (r_field0 rfl ek kk) ?_
        refine Fl (.int .i64 x63.id) (sgS (later c42 hc69) (by simp)) ?_
        refine Fq (.pointer (some ⟨b30, 0, none⟩)) (r_field0 rfl ek kk) ?_
        refine Fl (.int .i64 x20.id) (sgS (blk_cell (j := 0) x40 kk) (Option.some_ne_none _)) ?_
        by_cases q73 : (x63.id : Int) ≥ (x20.id : Int)
        ·refine Fq (.bool true) (r_geq (m := x63.id) (n := x20.id) rfl ek ek (decide_eq_true q73)) ?_
         refine Fq (.bool true) (r_pick (b := true) rfl ek ek) ?_
         refine Fq (.bool true) (r_pick (b := false) rfl ek ek) ?_
         refine F.es ?_
         have x6 := SG.blk s55 x6 (Option.some_ne_none _)
         have c74 := (SG.belowR c42 s55 (fun kq e => by cases e))
         refine h12 _ _ ?_
         refine wp_cond_true ek ?_
         refine wk fun K14 h14 => ?_
         refine W.region_quiet [(0, false)] kk ?_
         refine Fa (.bool false) ?_
         refine F.es ?_
         refine h14 _ _ ?_
         refine wp_ret ?_
         try simp only [Exit.then, Exit.inBlock]
         refine ret1 (v := .bool false) rfl kk ?_
         exact ⟨ret_bool (goodN_bad (k := k + 1) (by omega) (by rw [okAt_next hx21 hx64]; have := q73; simp [pipeOk, q48, q52, q56, q57, q61]; omega)).symm, c74⟩
        refine Fq (.bool false) (r_geq (m := x63.id) (n := x20.id) rfl ek ek (decide_eq_false q73)) ?_
        refine Fq (.bool false) (r_pick (b := true) rfl ek ek) ?_
        refine Fq (.bool false) (r_pick (b := false) rfl ek ek) ?_
        refine F.es ?_
        have x6 := SG.blk s55 x6 (Option.some_ne_none _)
        have c75 := (SG.belowR c42 s55 (fun kq e => by cases e))
        refine h12 _ _ ?_
        refine wp_cond_false ek ?_
        refine wp_skip ?_
        refine h10 _ _ ?_
        refine W.region_quiet [(0, false), (1, false)] kk ?_
        refine Fq (.int .i64 (((k + 1) + 1 : Nat) : Int)) (r_add (m := (((k + 1) : Nat) : Int)) (n := 1) (z := (((k + 1) + 1 : Nat) : Int)) rfl ek ek (by omega) (by omega)) ?_
        refine Fv (.int .i64 (((k + 1) + 1 : Nat) : Int)) ?_
        refine F.es ?_
        exact h7 _ _ _ (by omega : (n - (k + 1 + 1)) < _) ⟨k + 1 + 1, Kn.of, rfl, (by omega), (okTo_next hok (by rw [okAt_next hx21 hx64]; have := q73; simp [pipeOk, q48, q52, q56, q57, q61]; omega)), x6, c75⟩
       refine Fq (.bool false) (r_gtr (m := (K : Int)) (n := 0) rfl ek ek (decide_eq_false q62)) ?_
       refine Fv (.bool false) ?_
       refine Fs s55 ?_
       refine Fs s55 ?_
       refine Fs s55 ?_
       refine Fs s55 ?_
       refine Fs s55 ?_
       refine Fs s55 ?_
       refine Fs s55 ?_
       refine Fs s55 ?_
       refine Fs s55 ?_
       refine Fs s55 ?_
       refine Fq (.bool false) (r_pick (b := false) rfl ek ek) ?_
       refine Fq (.bool false) (r_pick (b := false) rfl ek ek) ?_
       refine F.es ?_
       have x6 := SG.blk s55 x6 (Option.some_ne_none _)
       have c76 := (SG.belowR c42 s55 (fun kq e => by cases e))
       refine h12 _ _ ?_
       refine wp_cond_false ek ?_
       refine wp_skip ?_
       refine h10 _ _ ?_
       refine W.region_quiet [(0, false), (1, false)] kk ?_
       refine Fq (.int .i64 ((K + 1 : Nat) : Int)) (r_add (m := (K : Int)) (n := 1) (z := ((K + 1 : Nat) : Int)) rfl ek ek (by omega) (by omega)) ?_
       refine Fv (.int .i64 ((K + 1 : Nat) : Int)) ?_
       refine F.es ?_
       exact h7 _ _ _ (by omega : (n - (K + 1)) < _) ⟨K + 1, Kn.of, rfl, (by omega), (okTo_next hok (by have e0 : K = 0 := (by omega); subst e0; rw [okAt_zero hx21]; simp [pipeOk, q48, q52, q56, q57, q61])), x6, c76⟩
      rw [q61]
      refine Fq (.bool true) (r_not (b := false) rfl ek rfl) ?_
      refine Fq (.bool true) (r_pick (b := false) rfl ek ek) ?_
      refine Fv (.bool true) ?_
      refine Fs s55 ?_
      refine Fs s55 ?_
      refine Fs s55 ?_
      refine Fs s55 ?_
      refine Fs s55 ?_
      refine Fs s55 ?_
      refine Fs s55 ?_
      refine Fs s55 ?_
      refine Fs s55 ?_
      refine Fs s55 ?_
      refine Fs s55 ?_
      refine Fs s55 ?_
      refine Fs s55 ?_
      refine Fs s55 ?_
      refine Fq (.bool true) (r_pick (b := true) rfl ek ek) ?_
      refine F.es ?_
      have c77 := (SG.belowR c42 s55 (fun kq e => by cases e))
      refine h12 _ _ ?_
      refine wp_cond_true ek ?_
      refine wk fun K15 h15 => ?_
      refine W.region_quiet [(0, false)] kk ?_
      refine Fa (.bool false) ?_
      refine F.es ?_
      refine h15 _ _ ?_
      refine wp_ret ?_
      try simp only [Exit.then, Exit.inBlock]
      refine ret1 (v := .bool false) rfl kk ?_
      exact ⟨ret_bool (goodN_bad (k := K) (by omega) (okAt_pipe hx21 (by simp [pipeOk, q61]))).symm, c77⟩
     rw [q56]
     refine Fq (.bool true) (r_not (b := false) rfl ek rfl) ?_
     refine Fq (.bool true) (r_pick (b := false) rfl ek ek) ?_
     refine Fv (.bool true) ?_
     refine Fs s55 ?_
     refine Fs s55 ?_
     refine Fs s55 ?_
     refine Fs s55 ?_
     refine Fs s55 ?_
     refine Fq (.bool true) (r_pick (b := true) rfl ek ek) ?_
     refine Fv (.bool true) ?_
     refine Fs s55 ?_
     refine Fs s55 ?_
     refine Fs s55 ?_
     refine Fs s55 ?_
     refine Fq (.bool true) (r_pick (b := true) rfl ek ek) ?_
     refine Fv (.bool true) ?_
     refine Fs s55 ?_
     refine Fs s55 ?_
     refine Fs s55 ?_
     refine Fs s55 ?_
     refine Fs s55 ?_
     refine Fs s55 ?_
     refine Fs s55 ?_
     refine Fs s55 ?_
     refine Fs s55 ?_
     refine Fs s55 ?_
     refine Fs s55 ?_
     refine Fs s55 ?_
     refine Fs s55 ?_
     refine Fs s55 ?_
     refine Fq (.bool true) (r_pick (b := true) rfl ek ek) ?_
     refine F.es ?_
     have c78 := (SG.belowR c42 s55 (fun kq e => by cases e))
     refine h12 _ _ ?_
     refine wp_cond_true ek ?_
     refine wk fun K16 h16 => ?_
     refine W.region_quiet [(0, false)] kk ?_
     refine Fa (.bool false) ?_
     refine F.es ?_
     refine h16 _ _ ?_
     refine wp_ret ?_
     try simp only [Exit.then, Exit.inBlock]
     refine ret1 (v := .bool false) rfl kk ?_
     exact ⟨ret_bool (goodN_bad (k := K) (by omega) (okAt_pipe hx21 (by simp [pipeOk, q56]))).symm, c78⟩
    rw [q52]
    refine Fq (.bool true) (r_not (b := false) rfl ek rfl) ?_
    refine Fq (.bool true) (r_pick (b := false) rfl ek ek) ?_
    refine Fv (.bool true) ?_
    refine Fs s51 ?_
    refine Fs s51 ?_
    refine Fs s51 ?_
    refine Fs s51 ?_
    refine Fs s51 ?_
    refine Fq (.bool true) (r_pick (b := true) rfl ek ek) ?_
    refine Fv (.bool true) ?_
    refine Fs s51 ?_
    refine Fs s51 ?_
    refine Fs s51 ?_
    refine Fs s51 ?_
    refine Fs s51 ?_
    refine Fq (.bool true) (r_pick (b := true) rfl ek ek) ?_
    refine Fv (.bool true) ?_
    refine Fs s51 ?_
    refine Fs s51 ?_
    refine Fs s51 ?_
    refine Fs s51 ?_
    refine Fq (.bool true) (r_pick (b := true) rfl ek ek) ?_
    refine Fv (.bool true) ?_
    refine Fs s51 ?_
    refine Fs s51 ?_
    refine Fs s51 ?_
    refine Fs s51 ?_
    refine Fs s51 ?_
    refine Fs s51 ?_
    refine Fs s51 ?_
    refine Fs s51 ?_
    refine Fs s51 ?_
    refine Fs s51 ?_
    refine Fs s51 ?_
    refine Fs s51 ?_
    refine Fs s51 ?_
    refine Fs s51 ?_
    refine Fq (.bool true) (r_pick (b := true) rfl ek ek) ?_
    refine F.es ?_
    have c79 := (SG.belowR c42 s51 (fun kq e => by cases e))
    refine h12 _ _ ?_
    refine wp_cond_true ek ?_
    refine wk fun K17 h17 => ?_
    refine W.region_quiet [(0, false)] kk ?_
    refine Fa (.bool false) ?_
    refine F.es ?_
    refine h17 _ _ ?_
    refine wp_ret ?_
    try simp only [Exit.then, Exit.inBlock]
    refine ret1 (v := .bool false) rfl kk ?_
    exact ⟨ret_bool (goodN_bad (k := K) (by omega) (okAt_pipe hx21 (by simp [pipeOk, q52]))).symm, c79⟩
   rw [q48]
   refine Fq (.bool true) (r_not (b := false) rfl ek rfl) ?_
   refine Fv (.bool true) ?_
   refine Fs s45 ?_
   refine Fs s45 ?_
   refine Fs s45 ?_
   refine Fs s45 ?_
   refine Fs s45 ?_
   refine Fq (.bool true) (r_pick (b := true) rfl ek ek) ?_
   refine Fv (.bool true) ?_
   refine Fs s45 ?_
   refine Fs s45 ?_
   refine Fs s45 ?_
   refine Fs s45 ?_
   refine Fs s45 ?_
   refine Fq (.bool true) (r_pick (b := true) rfl ek ek) ?_
   refine Fv (.bool true) ?_
   refine Fs s45 ?_
   refine Fs s45 ?_
   refine Fs s45 ?_
   refine Fs s45 ?_
   refine Fs s45 ?_
   refine Fq (.bool true) (r_pick (b := true) rfl ek ek) ?_
   refine Fv (.bool true) ?_
   refine Fs s45 ?_
   refine Fs s45 ?_
   refine Fs s45 ?_
   refine Fs s45 ?_
   refine Fq (.bool true) (r_pick (b := true) rfl ek ek) ?_
   refine Fv (.bool true) ?_
   refine Fs s45 ?_
   refine Fs s45 ?_
   refine Fs s45 ?_
   refine Fs s45 ?_
   refine Fs s45 ?_
   refine Fs s45 ?_
   refine Fs s45 ?_
   refine Fs s45 ?_
   refine Fs s45 ?_
   refine Fs s45 ?_
   refine Fs s45 ?_
   refine Fs s45 ?_
   refine Fs s45 ?_
   refine Fs s45 ?_
   refine Fq (.bool true) (r_pick (b := true) rfl ek ek) ?_
   refine F.es ?_
   have c80 := (SG.belowR c42 s45 (fun kq e => by cases e))
   refine h12 _ _ ?_
   refine wp_cond_true ek ?_
   refine wk fun K18 h18 => ?_
   refine W.region_quiet [(0, false)] kk ?_
   refine Fa (.bool false) ?_
   refine F.es ?_
   refine h18 _ _ ?_
   refine wp_ret ?_
   try simp only [Exit.then, Exit.inBlock]
   refine ret1 (v := .bool false) rfl kk ?_
   exact ⟨ret_bool (goodN_bad (k := K) (by omega) (okAt_pipe hx21 (by simp [pipeOk, q48]))).symm, c80⟩
  refine Fq (.bool false) (r_lss (m := (K : Int)) (n := (n : Int)) rfl ek ek (decide_eq_false q18)) ?_
  refine F.es ?_
  refine h8 _ _ ?_
  refine wk fun K19 h19 => ?_
  refine wp_cond_false ek ?_
  refine wp_exit ?_
  refine h5 _ _ ?_
  refine wk fun K20 h20 => ?_
  refine W.region_quiet [(0, false)] kk ?_
  refine Fa (.bool true) ?_
  refine F.es ?_
  refine h20 _ _ ?_
  refine wp_ret ?_
  try simp only [Exit.then]
  refine ret1 (v := .bool true) rfl kk ?_
  exact ⟨ret_bool (by rw [goodN_fin hl hk hok (by omega)]; simp [q13]; omega), c17⟩
 rw [q13]
 refine Fq (.bool true) (r_not (b := false) rfl ek rfl) ?_
 refine Fv (.bool true) ?_
 refine Fs s10 ?_
 refine Fs s10 ?_
 refine Fs s10 ?_
 refine Fs s10 ?_
 refine Fq (.bool true) (r_pick (b := true) rfl ek ek) ?_
 refine F.es ?_
 have c81 := (SG.belowR c9 s10 (fun kq e => by cases e))
 refine h3 _ _ ?_
 refine wp_cond_true ek ?_
 refine wk fun K21 h21 => ?_
 refine W.region_quiet [(0, false)] kk ?_
 refine Fa (.bool false) ?_
 refine F.es ?_
 refine h21 _ _ ?_
 refine wp_ret ?_
 try simp only [Exit.then]
 refine ret1 (v := .bool false) rfl kk ?_
 exact ⟨ret_bool (goodN_out hl (by simp [q13])).symm, c81⟩

end Go.Proofs.YtdlcldaogcbnlaaDoor
