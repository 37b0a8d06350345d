/- The walk of the law FnExactNetworkParts. -/
import Derived.Test.YtdlcldaogcbnlaaMarkT
import Derived.Test.YtdlcldaogcbnlaaNetH
import Derived.Test.YtdlcldaogcbnlaaRows
import Derived.Test.YtdlcldaogcbnlaaFr2
namespace Go.Proofs.Ytdlcldaogcbnlaa
open Go.RowKit
set_option linter.unusedVariables false
set_option linter.unusedSimpArgs false

theorem below_le {B B' : Nat} {w w' : World} (h : Below B w w') (hb : B' ≤ B) : Below B' w w' := ⟨h.os, h.tape, h.output, h.size, fun k hk => h.block k (Nat.lt_of_lt_of_le hk hb)⟩
theorem szL_le {left : Int} {n : Nat} (h : ¬ szL left n < 0) : (n : Int) ≤ left := by
  by_cases h9 : (n : Int) ≤ left
  · exact h9
  · rw [szL_neg h9] at h; omega

set_option maxRecDepth 100000 in
set_option maxHeartbeats 8000000 in
theorem w_FnExactNetworkParts (m0 : Int) (x0 : Option Addr) (n0 p0 : Nat) (a0 : List Pp) (w : World) (H0 : wf64 m0 ∧ a0.length = n0 ∧ Rd w 4 x0 n0 (pipesV a0) ∧ n0 ≤ maxLen ∧ ∀ p ∈ a0, p.wf) :
    Calls Try.prog 3 #[.agg #[.int .i64 m0, .slice x0 n0 p0]] w fun e w' => e = .returned (.bool true) ∧ Below w.heap.size w w' := by
 obtain ⟨_, _, h0, z0, _⟩ := H0
 unfold maxLen at z0
 have hl0 := rd_pipes_len h0
 have hbd := NetworkParts_bd m0 a0
 go_enter Try.func3, Try.ntmps3
 refine F.begin 96 [(0, .agg #[.int .i64 m0, .slice x0 n0 p0])] (fun U0 => ?_)
 refine wk fun K1 h1 => ?_
 refine W.region_plain (row := none) [(0, true), (1, false)] kk ?_
 have s1 := SG.self w none
 refine W.sn (fun b => .pointer (some ⟨b, 0, none⟩)) #[.int .i64 m0, .slice x0 n0 p0] 24 s1 rfl kk rfl (fun _ => by kernel_rfl) (fun b2 w3 hb4 k5 x6 s7 => ?_)
 refine F.nx ?_
 have lo8 : w.heap.size ≤ b2 := Nat.le_trans ((SG.belowR (Below.refl _ _) s1 (fun kq e => by cases e))).size (Nat.le_of_eq hb4)
 refine Fa (.bool false) ?_
 refine F.es ?_
 have c9 := (SG.belowR (Below.refl _ _) s7 (fun kq e => by cases e))
 refine h1 _ _ ?_
 refine wk fun K2 h2 => ?_
 refine W.region_quiet [(0, false)] kk ?_
 refine Fa (.int .i64 1048576) ?_
 refine F.es ?_
 refine h2 _ _ ?_
 refine wk fun K3 h3 => ?_
 refine W.region_plain (row := none) [(0, false), (1, false), (2, true), (3, false)] kk ?_
 have s10 := SG.self w3 none
 refine Fq (.agg #[.int .i64 m0, .slice x0 n0 p0]) (r_load2 rfl ek kk kk (sgS (blk_cell (j := 0) x6 kk) (Option.some_ne_none _)) (sgS (blk_cell (j := 1) x6 kk) (Option.some_ne_none _))) ?_
 refine Fv (.int .i64 1048576) ?_
 refine Fc [.agg #[.int .i64 m0, .slice x0 n0 p0], .int .i64 1048576] (szNetwork_any m0 x0 n0 p0 a0 1048576 _ (Rd.kept h0 (SG.belowR c9 s10 (fun kq e => by cases e))) (by omega) (by omega) (by omega)) ?_
 rintro e w12 ⟨rfl, b11⟩
 have s13 := SG.of_below s10 b11
 refine ⟨_, rfl, s13, ?_⟩
 refine F.nx ?_
 refine Fa (.int .i64 (szL 1048576 n0)) ?_
 refine F.es ?_
 have x6 := SG.blk s13 x6 (Option.some_ne_none _)
 have c14 := (SG.belowR c9 s13 (fun kq e => by cases e))
 refine h3 _ _ ?_
 refine wk fun K4 h4 => ?_
 refine wk fun K5 h5 => ?_
 refine W.region_quiet [(0, false), (1, false)] kk ?_
 refine Fv (.int .i64 (szL 1048576 n0)) ?_
 by_cases q15 : ((szL 1048576 n0) : Int) < (0 : Int)
 ·refine Fq (.bool true) (r_lss (m := (szL 1048576 n0)) (n := 0) rfl ek ek (decide_eq_true q15)) ?_
  refine F.es ?_
  refine h5 _ _ ?_
  refine wp_cond_true ek ?_
  refine wk fun K6 h6 => ?_
  refine W.region_quiet [(0, false)] kk ?_
  refine Fa (.bool true) ?_
  refine F.es ?_
  refine h6 _ _ ?_
  refine wp_ret ?_
  try simp only [Exit.then]
  refine ret1 (v := .bool true) rfl kk ?_
  exact ⟨rfl, c14⟩
 have hsz := szL_le q15
 refine Fq (.bool false) (r_lss (m := (szL 1048576 n0)) (n := 0) rfl ek ek (decide_eq_false q15)) ?_
 refine F.es ?_
 refine h5 _ _ ?_
 refine wp_cond_false ek ?_
 refine wp_skip ?_
 refine h4 _ _ ?_
 as_aux_lemma =>
  refine wk fun K7 h7 => ?_
  refine W.region_plain (row := none) [(0, false), (1, true), (2, true), (3, false), (4, false), (5, false), (6, false), (7, false)] kk ?_
  have s16 := SG.self w12 none
  refine Fq (.agg #[.int .i64 m0, .slice x0 n0 p0]) (r_load2 rfl ek kk kk (sgS (blk_cell (j := 0) x6 kk) (Option.some_ne_none _)) (sgS (blk_cell (j := 1) x6 kk) (Option.some_ne_none _))) ?_
  have lb23 := (Nat.lt_of_lt_of_le (blk_lt x6) (s16).size)
  have z21 := ((SG.belowR c14 s16 (fun kq e => by cases e))).size
  refine Fc [.agg #[.int .i64 m0, .slice x0 n0 p0]] (toNetwork_any m0 x0 n0 p0 a0 _ (Rd.kept h0 (SG.belowR c14 s16 (fun kq e => by cases e))) (by omega)) ?_
  rintro e w25 ⟨A17, d18, rfl, ho19, b24⟩
  have s26 := SG.of_below s16 b24
  refine ⟨_, rfl, s26, ?_⟩
  refine F.nx ?_
  have ho20 := own_base (base' := w.heap.size) ho19 z21
  have hlr22 := rd_pipes_len (own_rd ho20)
  refine Fc [.agg #[.int .i64 m0, .slice A17 n0 d18]] (NetworkParts_spec m0 A17 n0 d18 a0 _ (own_rd ho20) (by omega)) ?_
  rintro e w33 ⟨A28, d29, vs30, rfl, t31, b32⟩
  have s34 := SG.of_below s26 b32
  refine ⟨_, rfl, s34, ?_⟩
  refine F.nx ?_
  refine Fv (.tuple #[.slice A28 ((NetworkParts_v0 m0 a0).length) d29, .bool (NetworkParts_v1 m0 a0)]) ?_
  refine Fq (.slice A28 ((NetworkParts_v0 m0 a0).length) d29) (r_extract (vs := #[.slice A28 ((NetworkParts_v0 m0 a0).length) d29, .bool (NetworkParts_v1 m0 a0)]) rfl ek kk) ?_
  refine Fq (.bool (NetworkParts_v1 m0 a0)) (r_extract (vs := #[.slice A28 ((NetworkParts_v0 m0 a0).length) d29, .bool (NetworkParts_v1 m0 a0)]) rfl ek kk) ?_
  refine Fa (.slice A28 ((NetworkParts_v0 m0 a0).length) d29) ?_
  refine Fa (.bool (NetworkParts_v1 m0 a0)) ?_
  refine F.es ?_
  have x6 := SG.blk s34 x6 (Option.some_ne_none _)
  have c36 := (SG.belowR c14 s34 (fun kq e => by cases e))
  refine h7 _ _ ?_
  refine wk fun K8 h8 => ?_
  refine W.region_plain (row := none) [(0, false), (1, true), (2, true), (3, true)] kk ?_
  have s37 := SG.self w33 none
  refine Fq (.agg #[.int .i64 m0, .slice x0 n0 p0]) (r_load2 rfl ek kk kk (sgS (blk_cell (j := 0) x6 kk) (Option.some_ne_none _)) (sgS (blk_cell (j := 1) x6 kk) (Option.some_ne_none _))) ?_
  have lb44 := (Nat.lt_of_lt_of_le (blk_lt x6) (s37).size)
  have z45 := ((SG.belowR (Below.refl _ _) s37 (fun kq e => by cases e))).size
  have z42 := ((SG.belowR c36 s37 (fun kq e => by cases e))).size
  refine Fc [.agg #[.int .i64 m0, .slice x0 n0 p0]] (toNetwork_any m0 x0 n0 p0 a0 _ (Rd.kept h0 (SG.belowR c36 s37 (fun kq e => by cases e))) (by omega)) ?_
  rintro e w47 ⟨A38, d39, rfl, ho40, b46⟩
  have s48 := SG.of_below s37 b46
  refine ⟨_, rfl, s48, ?_⟩
  refine F.nx ?_
  have ho41 := own_base (base' := w.heap.size) ho40 z42
  have hlr43 := rd_pipes_len (own_rd ho41)
  have nb50 : Nb b2 (.slice A38 n0 d39) := nb_lo ho40 lb44
  have lor43 := fun j e => Nat.le_trans z45 (World.ownsRow.lt ho40 j e).1
  refine W.sn (fun b => .pointer (some ⟨b, 0, none⟩)) #[.int .i64 0, .slice none 0 0] 31 s48 rfl kk rfl (fun _ => by kernel_rfl) (fun b52 w53 hb54 k55 x56 s57 => ?_)
  refine F.nx ?_
  have lo58 : w.heap.size ≤ b52 := Nat.le_trans ((SG.belowR c36 s48 (fun kq e => by cases e))).size (Nat.le_of_eq hb54)
  have nb61 : Nb b52 (.slice A38 n0 d39) := nb_hi ho41 (Nat.le_of_eq hb54)
  have ho63 := own_kept ho41 k55
  refine W.ss (v := .agg #[.int .i64 m0, .slice A38 n0 d39]) (j := 0) (news := [.int .i64 m0, .slice A38 n0 d39]) (cs' := #[.int .i64 m0, .slice A38 n0 d39]) s57 rfl kk rfl rfl kk kk x56 kk kk (by simp) kk kk (.inr (Nat.le_trans (s48).size (Nat.le_of_eq hb54))) (fun w64 g65 x66 s67 => ?_)
  have ho69 := own_grown ho63 g65 (fun j e1 e2 => by cases e2; exact nb61 e1.symm)
  have g70 := (SG.belowR (Below.refl _ _) s67 (fun kq e => by cases e))
  refine F.es ?_
  have x6 := SG.blk s67 x6 (Option.some_ne_none _)
  have c71 := (SG.belowR c36 s67 (fun kq e => by cases e))
  refine h8 _ _ ?_
  as_aux_lemma =>
   refine wk fun K9 h9 => ?_
   refine W.region_plain (row := none) [(0, false), (1, true), (2, false), (3, false), (4, false), (5, false), (6, false)] kk ?_
   have s72 := SG.self w64 none
   refine Fq (.agg #[.int .i64 m0, .slice A38 n0 d39]) (r_load2 rfl ek kk kk (sgS (blk_cell (j := 0) x66 kk) (Option.some_ne_none _)) (sgS (blk_cell (j := 1) x66 kk) (Option.some_ne_none _))) ?_
   have hlt7 := fun j e => (World.ownsRow.lt ho69 j e).2
   have hz7 := ((SG.belowR c71 s72 (fun kq e => by cases e))).size
   have hz57 := ((SG.belowR g70 s72 (fun kq e => by cases e))).size
   have hb7 : b2 < w64.heap.size := Nat.lt_of_lt_of_le (blk_lt x6) (s72).size
   refine Fc [.agg #[.int .i64 m0, .slice A38 n0 d39]] (NetworkParts_impl m0 A38 n0 d39 a0 _ (own_rd ho69) (by omega)) ?_
   rintro e w78 ⟨A73, d74, vs75, rfl, t76, b77⟩
   have s79 := SG.of_below s72 b77
   refine ⟨_, rfl, s79, ?_⟩
   refine F.nx ?_
   have ho81 := own_kept ho69 b77
   have hs7 : w64.heap.size ≤ w78.heap.size := (b77).size
   refine Fv (.tuple #[.slice A73 ((NetworkParts_v0 m0 a0).length) d74, .bool (NetworkParts_v1 m0 a0)]) ?_
   refine Fq (.slice A73 ((NetworkParts_v0 m0 a0).length) d74) (r_extract (vs := #[.slice A73 ((NetworkParts_v0 m0 a0).length) d74, .bool (NetworkParts_v1 m0 a0)]) rfl ek kk) ?_
   refine Fq (.bool (NetworkParts_v1 m0 a0)) (r_extract (vs := #[.slice A73 ((NetworkParts_v0 m0 a0).length) d74, .bool (NetworkParts_v1 m0 a0)]) rfl ek kk) ?_
   refine Fa (.slice A73 ((NetworkParts_v0 m0 a0).length) d74) ?_
   refine Fa (.bool (NetworkParts_v1 m0 a0)) ?_
   have g83 := (SG.belowR g70 s79 (fun kq e => by cases e))
   refine F.es ?_
   have x6 := SG.blk s79 x6 (Option.some_ne_none _)
   have x66 := SG.blk s79 x66 (Option.some_ne_none _)
   have c84 := (SG.belowR c71 s79 (fun kq e => by cases e))
   refine h9 _ _ ?_
   refine wk fun K10 h10 => ?_
   refine wk fun K11 h11 => ?_
   refine W.region_plain (row := none) [(0, false), (1, false), (2, true), (3, false), (4, false), (5, false), (6, false), (7, false), (8, false)] kk ?_
   have s85 := SG.self w78 none
   refine Fv (.slice A73 ((NetworkParts_v0 m0 a0).length) d74) ?_
   refine Fv (.slice A28 ((NetworkParts_v0 m0 a0).length) d29) ?_
   refine Fc [.slice A73 ((NetworkParts_v0 m0 a0).length) d74, .slice A28 ((NetworkParts_v0 m0 a0).length) d29] (eqIntSS_same A73 A28 ((NetworkParts_v0 m0 a0).length) d74 d29 vs75 vs30 (NetworkParts_v0 m0 a0) _ (Tab.rd (Tab.later t76 s85 (fun j e => by cases e))) (RdT.kept t31 (SG.belowR g83 s85 (fun kq e => by cases e))) hbd) ?_
   rintro e w87 ⟨rfl, b86⟩
   have s88 := SG.of_below s85 b86
   refine ⟨_, rfl, s88, ?_⟩
   refine F.nx ?_
   have ho90 := own_kept ho81 b86
   refine Fq (.bool false) (r_not (b := true) rfl ek rfl) ?_
   refine Fv (.bool false) ?_
   refine Fv (.bool (NetworkParts_v1 m0 a0)) ?_
   refine Fv (.bool (NetworkParts_v1 m0 a0)) ?_
   refine Fq (.bool false) (r_neqB (m := (NetworkParts_v1 m0 a0)) (n := (NetworkParts_v1 m0 a0)) rfl ek ek kk (by rw [show ((NetworkParts_v1 m0 a0) == (NetworkParts_v1 m0 a0)) = true from beq_iff_eq.2 rfl]; try rfl)) ?_
   refine Fq (.bool false) (r_pick (b := false) rfl ek ek) ?_
   have g91 : w64.heap.size ≤ w87.heap.size := Nat.le_trans hs7 (s88).size
   have g92 := (SG.belowR g83 s88 (fun kq e => by cases e))
   have g93 := (Tab.later t76 s88 (fun j e => by cases e))
   refine F.es ?_
   have x6 := SG.blk s88 x6 (Option.some_ne_none _)
   have x66 := SG.blk s88 x66 (Option.some_ne_none _)
   have c94 := (SG.belowR c84 s88 (fun kq e => by cases e))
   refine h11 _ _ ?_
   refine wp_cond_false ek ?_
   refine wp_skip ?_
   refine h10 _ _ ?_
   refine wk fun K12 h12 => ?_
   refine wk fun K13 h13 => ?_
   refine W.region_sch (row := none) (Sch.of [(0, false), (1, false), (2, true), (3, true), (4, false)]) kk kk (fun _ d _ _ _ h => by cases d <;> exact h) kk (fun w95 e96 s97 => ?_)
   have ho99 := own_heap ho90 e96
   refine Fq (.agg #[.int .i64 m0, .slice A38 n0 d39]) (r_load2 rfl ek kk kk (sgS (blk_cell (j := 0) x66 kk) (Option.some_ne_none _)) (sgS (blk_cell (j := 1) x66 kk) (Option.some_ne_none _))) ?_
   refine Fq (.agg #[.int .i64 m0, .slice x0 n0 p0]) (r_load2 rfl ek kk kk (sgS (blk_cell (j := 0) x6 kk) (Option.some_ne_none _)) (sgS (blk_cell (j := 1) x6 kk) (Option.some_ne_none _))) ?_
   have lb106 := (Nat.lt_of_lt_of_le (blk_lt x6) (s97).size)
   have lb107 := (Nat.lt_of_lt_of_le (blk_lt x66) (s97).size)
   have z108 := ((SG.belowR g92 s97 (fun kq e => by cases e))).size
   have z104 := ((SG.belowR c94 s97 (fun kq e => by cases e))).size
   refine Fc [.agg #[.int .i64 m0, .slice x0 n0 p0]] (toNetwork_any m0 x0 n0 p0 a0 _ (Rd.kept h0 (SG.belowR c94 s97 (fun kq e => by cases e))) (by omega)) ?_
   rintro e w110 ⟨A100, d101, rfl, ho102, b109⟩
   have s111 := SG.of_below s97 b109
   refine ⟨_, rfl, s111, ?_⟩
   refine F.nx ?_
   have ho113 := own_kept ho99 b109
   have ho103 := own_base (base' := w.heap.size) ho102 z104
   have hlr105 := rd_pipes_len (own_rd ho103)
   have lor105 := fun j e => Nat.le_trans z108 (World.ownsRow.lt ho102 j e).1
   refine Fc [.agg #[.int .i64 m0, .slice A38 n0 d39], .agg #[.int .i64 m0, .slice A100 n0 d101]] (eqNetwork_below m0 A38 A100 n0 d39 d101 a0 _ (own_rd ho113) (own_rd ho103) (by omega)) ?_
   rintro e w119 ⟨rfl, b118⟩
   have s120 := SG.of_below s111 b118
   refine ⟨_, rfl, s120, ?_⟩
   refine F.nx ?_
   have ho122 := own_kept ho113 b118
   refine Fq (.bool false) (r_not (b := true) rfl ek rfl) ?_
   have g124 : w64.heap.size ≤ w119.heap.size := Nat.le_trans g91 (s120).size
   have g125 := (SG.belowR g92 s120 (fun kq e => by cases e))
   have g126 := (Tab.later g93 s120 (fun j e => by cases e))
   refine F.es ?_
   have x6 := SG.blk s120 x6 (Option.some_ne_none _)
   have x66 := SG.blk s120 x66 (Option.some_ne_none _)
   have c127 := (SG.belowR c94 s120 (fun kq e => by cases e))
   refine h13 _ _ ?_
   as_aux_lemma =>
    refine wp_cond_false ek ?_
    refine wp_skip ?_
    refine h12 _ _ ?_
    refine wk fun K14 h14 => ?_
    refine W.region_quiet [(0, false)] kk ?_
    refine Fa (.int .i64 1) ?_
    refine F.es ?_
    refine h14 _ _ ?_
    refine wk fun K15 h15 => ?_
    refine W.region_plain (row := (Value.ownBlock (.slice A38 n0 d39))) [(0, false), (1, false), (2, true), (3, false)] kk ?_
    have s128 := SG.self w119 (Value.ownBlock (.slice A38 n0 d39))
    refine Fq (.agg #[.int .i64 m0, .slice A38 n0 d39]) (r_load2 rfl ek kk kk (sgS (blk_cell (j := 0) x66 kk) nb61) (sgS (blk_cell (j := 1) x66 kk) nb61)) ?_
    refine Fv (.int .i64 1) ?_
    refine Fc [.agg #[.int .i64 m0, .slice A38 n0 d39], .int .i64 1] (markNetwork_any m0 A38 n0 d39 w.heap.size 1 _ _ ho122 (by omega) (by omega) (by omega)) ?_
    rintro e w130 ⟨rfl, ho132, g131⟩
    have s133 := SG.of_grown s128 g131 (.inl rfl)
    refine ⟨_, rfl, s133, ?_⟩
    refine F.nx ?_
    refine Fa (.int .i64 (1 + 4 * (n0 : Int))) ?_
    have g141 : w64.heap.size ≤ w130.heap.size := Nat.le_trans g124 (s133).size
    have g142 := (SG.belowR g125 s133 (fun kq e => lor43 kq e))
    have g143 := (Tab.later g126 s133 (fun j e => hlt7 j e))
    refine F.es ?_
    have x6 := SG.blk s133 x6 nb50
    have c144 := (SG.belowR c127 s133 (fun kq e => (World.ownsRow.lt ho122 kq e).1))
    refine h15 _ _ ?_
    refine wk fun K16 h16 => ?_
    refine wk fun K17 h17 => ?_
    refine W.region_plain (row := none) [(0, false), (1, false), (2, false), (3, false), (4, false), (5, true), (6, false), (7, false), (8, false), (9, false), (10, false), (11, false), (12, false)] kk ?_
    have s145 := SG.self w130 none
    refine Fv (.int .i64 (1 + 4 * (n0 : Int))) ?_
    refine Fq (.bool false) (r_lss (m := (1 + 4 * (n0 : Int))) (n := 0) rfl ek ek (decide_eq_false (by omega))) ?_
    refine Fv (.bool false) ?_
    refine Fv (.slice A73 ((NetworkParts_v0 m0 a0).length) d74) ?_
    refine Fv (.slice A28 ((NetworkParts_v0 m0 a0).length) d29) ?_
    refine Fc [.slice A73 ((NetworkParts_v0 m0 a0).length) d74, .slice A28 ((NetworkParts_v0 m0 a0).length) d29] (eqIntSS_same A73 A28 ((NetworkParts_v0 m0 a0).length) d74 d29 vs75 vs30 (NetworkParts_v0 m0 a0) _ (Tab.rd (Tab.later g143 s145 (fun j e => by cases e))) (RdT.kept t31 (SG.belowR g142 s145 (fun kq e => by cases e))) hbd) ?_
    rintro e w147 ⟨rfl, b146⟩
    have s148 := SG.of_below s145 b146
    refine ⟨_, rfl, s148, ?_⟩
    refine F.nx ?_
    refine Fq (.bool false) (r_not (b := true) rfl ek rfl) ?_
    refine Fq (.bool false) (r_pick (b := false) rfl ek ek) ?_
    refine Fv (.bool false) ?_
    refine Fv (.bool (NetworkParts_v1 m0 a0)) ?_
    refine Fv (.bool (NetworkParts_v1 m0 a0)) ?_
    refine Fq (.bool false) (r_neqB (m := (NetworkParts_v1 m0 a0)) (n := (NetworkParts_v1 m0 a0)) rfl ek ek kk (by rw [show ((NetworkParts_v1 m0 a0) == (NetworkParts_v1 m0 a0)) = true from beq_iff_eq.2 rfl]; try rfl)) ?_
    refine Fq (.bool false) (r_pick (b := false) rfl ek ek) ?_
    have g152 : w64.heap.size ≤ w147.heap.size := Nat.le_trans g141 (s148).size
    have g153 := (SG.belowR g142 s148 (fun kq e => by cases e))
    have g154 := (Tab.later g143 s148 (fun j e => by cases e))
    refine F.es ?_
    have x6 := SG.blk s148 x6 (Option.some_ne_none _)
    have c155 := (SG.belowR c144 s148 (fun kq e => by cases e))
    refine h17 _ _ ?_
    as_aux_lemma =>
     refine wp_cond_false ek ?_
     refine wp_skip ?_
     refine h16 _ _ ?_
     refine wk fun K18 h18 => ?_
     refine W.region_quiet [(0, false)] kk ?_
     refine Fa (.int .i64 1) ?_
     refine F.es ?_
     refine h18 _ _ ?_
     refine wk fun K19 h19 => ?_
     refine region_S (fun _ => True) trivial [(0, false), (1, false), (2, true), (3, false)] kk ?_
     refine Fv (.slice A73 ((NetworkParts_v0 m0 a0).length) d74) ?_
     refine Fv (.int .i64 1) ?_
     refine Fc [.slice A73 ((NetworkParts_v0 m0 a0).length) d74, .int .i64 1] (markIntSS_any A73 ((NetworkParts_v0 m0 a0).length) d74 w64.heap.size vs75 (NetworkParts_v0 m0 a0) 1 w147 (g152) g154 hbd (by omega) (by omega)) ?_
     rintro e w17 ⟨rfl, htm, hb17⟩
     refine ⟨_, rfl, trivial, ?_⟩
     refine F.nx ?_
     refine Fa (.int .i64 (1 + ((lensOf (NetworkParts_v0 m0 a0) : Nat) : Int))) ?_
     refine F.es ?_
     have x17 := (hb17.block _ hb7).trans x6
     have c17 := Below.trans c155 (below_le hb17 hz7)
     have c517 := Below.trans g153 (below_le hb17 hz57)
     refine h19 _ _ ?_
     refine wk fun K20 h20 => ?_
     refine W.region_quiet [(0, false)] kk ?_
     refine Fa (.int .i64 1) ?_
     refine F.es ?_
     refine h20 _ _ ?_
     refine wk fun K21 h21 => ?_
     refine W.region_plain (row := none) [(0, false), (1, false), (2, true), (3, false)] kk ?_
     have s156 := SG.self w17 none
     refine Fv (.slice A73 ((NetworkParts_v0 m0 a0).length) d74) ?_
     refine Fv (.int .i64 1) ?_
     refine Fc [.slice A73 ((NetworkParts_v0 m0 a0).length) d74, .int .i64 1] (heldIntSS_any A73 ((NetworkParts_v0 m0 a0).length) d74 vs75 (NetworkParts_v0 m0 a0) 1 _ (Tab.rd (Tab.later htm s156 (fun j e => by cases e))) hbd (by omega) (by omega)) ?_
     rintro e w158 ⟨rfl, b157⟩
     have s159 := SG.of_below s156 b157
     refine ⟨_, rfl, s159, ?_⟩
     refine F.nx ?_
     refine Fa (.int .i64 (1 + ((lensOf (NetworkParts_v0 m0 a0) : Nat) : Int))) ?_
     have g160 := (SG.belowR c517 s159 (fun kq e => by cases e))
     have g161 := (Tab.later htm s159 (fun j e => by cases e))
     refine F.es ?_
     have x17 := SG.blk s159 x17 (Option.some_ne_none _)
     have c162 := (SG.belowR c17 s159 (fun kq e => by cases e))
     refine h21 _ _ ?_
     refine wk fun K22 h22 => ?_
     refine wk fun K23 h23 => ?_
     refine W.region_quiet [(0, false), (1, false)] kk ?_
     refine Fv (.int .i64 (1 + ((lensOf (NetworkParts_v0 m0 a0) : Nat) : Int))) ?_
     refine Fq (.bool false) (r_lss (m := (1 + ((lensOf (NetworkParts_v0 m0 a0) : Nat) : Int))) (n := 0) rfl ek ek (decide_eq_false (by omega))) ?_
     refine F.es ?_
     refine h23 _ _ ?_
     refine wp_cond_false ek ?_
     refine wp_skip ?_
     refine h22 _ _ ?_
     refine wk fun K24 h24 => ?_
     refine wk fun K25 h25 => ?_
     refine W.region_quiet [(0, false), (1, false), (2, false)] kk ?_
     refine Fv (.int .i64 (1 + ((lensOf (NetworkParts_v0 m0 a0) : Nat) : Int))) ?_
     refine Fv (.int .i64 (1 + ((lensOf (NetworkParts_v0 m0 a0) : Nat) : Int))) ?_
     refine Fq (.bool false) (r_neq (m := (1 + ((lensOf (NetworkParts_v0 m0 a0) : Nat) : Int))) (n := 1 + ((lensOf (NetworkParts_v0 m0 a0) : Nat) : Int)) rfl ek ek (decide_eq_false (fun h9 => h9 rfl))) ?_
     refine F.es ?_
     refine h25 _ _ ?_
     as_aux_lemma =>
      refine wp_cond_false ek ?_
      refine wp_skip ?_
      refine h24 _ _ ?_
      refine wk fun K26 h26 => ?_
      refine W.region_plain (row := none) [(0, false), (1, true), (2, true), (3, false), (4, false), (5, false), (6, false), (7, false)] kk ?_
      have s163 := SG.self w158 none
      refine Fq (.agg #[.int .i64 m0, .slice x0 n0 p0]) (r_load2 rfl ek kk kk (sgS (blk_cell (j := 0) x17 kk) (Option.some_ne_none _)) (sgS (blk_cell (j := 1) x17 kk) (Option.some_ne_none _))) ?_
      have lb170 := (Nat.lt_of_lt_of_le (blk_lt x17) (s163).size)
      have z171 := ((SG.belowR g160 s163 (fun kq e => by cases e))).size
      have z168 := ((SG.belowR c162 s163 (fun kq e => by cases e))).size
      refine Fc [.agg #[.int .i64 m0, .slice x0 n0 p0]] (toNetwork_any m0 x0 n0 p0 a0 _ (Rd.kept h0 (SG.belowR c162 s163 (fun kq e => by cases e))) (by omega)) ?_
      rintro e w173 ⟨A164, d165, rfl, ho166, b172⟩
      have s174 := SG.of_below s163 b172
      refine ⟨_, rfl, s174, ?_⟩
      refine F.nx ?_
      have ho167 := own_base (base' := w.heap.size) ho166 z168
      have hlr169 := rd_pipes_len (own_rd ho167)
      have lor169 := fun j e => Nat.le_trans z171 (World.ownsRow.lt ho166 j e).1
      refine Fc [.agg #[.int .i64 m0, .slice A164 n0 d165]] (NetworkParts_impl m0 A164 n0 d165 a0 _ (own_rd ho167) (by omega)) ?_
      rintro e w181 ⟨A176, d177, vs178, rfl, t179, b180⟩
      have s182 := SG.of_below s174 b180
      refine ⟨_, rfl, s182, ?_⟩
      refine F.nx ?_
      refine Fv (.tuple #[.slice A176 ((NetworkParts_v0 m0 a0).length) d177, .bool (NetworkParts_v1 m0 a0)]) ?_
      refine Fq (.slice A176 ((NetworkParts_v0 m0 a0).length) d177) (r_extract (vs := #[.slice A176 ((NetworkParts_v0 m0 a0).length) d177, .bool (NetworkParts_v1 m0 a0)]) rfl ek kk) ?_
      refine Fq (.bool (NetworkParts_v1 m0 a0)) (r_extract (vs := #[.slice A176 ((NetworkParts_v0 m0 a0).length) d177, .bool (NetworkParts_v1 m0 a0)]) rfl ek kk) ?_
      refine Fa (.slice A176 ((NetworkParts_v0 m0 a0).length) d177) ?_
      refine Fa (.bool (NetworkParts_v1 m0 a0)) ?_
      have g184 := (SG.belowR g160 s182 (fun kq e => by cases e))
      have g185 := (Tab.later g161 s182 (fun j e => by cases e))
      refine F.es ?_
      have c186 := (SG.belowR c162 s182 (fun kq e => by cases e))
      refine h26 _ _ ?_
      refine wk fun K27 h27 => ?_
      refine wk fun K28 h28 => ?_
      refine W.region_plain (row := none) [(0, false), (1, false), (2, true), (3, false), (4, false), (5, false), (6, false), (7, false), (8, false)] kk ?_
      have s187 := SG.self w181 none
      refine Fv (.slice A176 ((NetworkParts_v0 m0 a0).length) d177) ?_
      refine Fv (.slice A28 ((NetworkParts_v0 m0 a0).length) d29) ?_
      refine Fc [.slice A176 ((NetworkParts_v0 m0 a0).length) d177, .slice A28 ((NetworkParts_v0 m0 a0).length) d29] (eqIntSS_same A176 A28 ((NetworkParts_v0 m0 a0).length) d177 d29 vs178 vs30 (NetworkParts_v0 m0 a0) _ (RdT.kept (Tab.rd t179) (SG.below s187)) (RdT.kept t31 (SG.belowR g184 s187 (fun kq e => by cases e))) hbd) ?_
      rintro e w189 ⟨rfl, b188⟩
      have s190 := SG.of_below s187 b188
      refine ⟨_, rfl, s190, ?_⟩
      refine F.nx ?_
      refine Fq (.bool false) (r_not (b := true) rfl ek rfl) ?_
      refine Fv (.bool false) ?_
      refine Fv (.bool (NetworkParts_v1 m0 a0)) ?_
      refine Fv (.bool (NetworkParts_v1 m0 a0)) ?_
      refine Fq (.bool false) (r_neqB (m := (NetworkParts_v1 m0 a0)) (n := (NetworkParts_v1 m0 a0)) rfl ek ek kk (by rw [show ((NetworkParts_v1 m0 a0) == (NetworkParts_v1 m0 a0)) = true from beq_iff_eq.2 rfl]; try rfl)) ?_
      refine Fq (.bool false) (r_pick (b := false) rfl ek ek) ?_
      have g193 := (Tab.later g185 s190 (fun j e => by cases e))
      refine F.es ?_
      have c194 := (SG.belowR c186 s190 (fun kq e => by cases e))
      refine h28 _ _ ?_
      refine wp_cond_false ek ?_
      refine wp_skip ?_
      refine h27 _ _ ?_
      as_aux_lemma =>
       refine wk fun K29 h29 => ?_
       refine W.region_quiet [(0, false)] kk ?_
       refine Fa (.int .i64 1) ?_
       refine F.es ?_
       refine h29 _ _ ?_
       refine wk fun K30 h30 => ?_
       refine W.region_plain (row := none) [(0, false), (1, false), (2, true), (3, false)] kk ?_
       have s195 := SG.self w189 none
       refine Fv (.slice A73 ((NetworkParts_v0 m0 a0).length) d74) ?_
       refine Fv (.int .i64 1) ?_
       refine Fc [.slice A73 ((NetworkParts_v0 m0 a0).length) d74, .int .i64 1] (heldIntSS_any A73 ((NetworkParts_v0 m0 a0).length) d74 vs75 (NetworkParts_v0 m0 a0) 1 _ (Tab.rd (Tab.later g193 s195 (fun j e => by cases e))) hbd (by omega) (by omega)) ?_
       rintro e w197 ⟨rfl, b196⟩
       have s198 := SG.of_below s195 b196
       refine ⟨_, rfl, s198, ?_⟩
       refine F.nx ?_
       refine Fa (.int .i64 (1 + ((lensOf (NetworkParts_v0 m0 a0) : Nat) : Int))) ?_
       refine F.es ?_
       have c202 := (SG.belowR c194 s198 (fun kq e => by cases e))
       refine h30 _ _ ?_
       refine wk fun K31 h31 => ?_
       refine wk fun K32 h32 => ?_
       refine W.region_quiet [(0, false), (1, false)] kk ?_
       refine Fv (.int .i64 (1 + ((lensOf (NetworkParts_v0 m0 a0) : Nat) : Int))) ?_
       refine Fq (.bool false) (r_lss (m := (1 + ((lensOf (NetworkParts_v0 m0 a0) : Nat) : Int))) (n := 0) rfl ek ek (decide_eq_false (by omega))) ?_
       refine F.es ?_
       refine h32 _ _ ?_
       refine wp_cond_false ek ?_
       refine wp_skip ?_
       refine h31 _ _ ?_
       refine wk fun K33 h33 => ?_
       refine wk fun K34 h34 => ?_
       refine W.region_quiet [(0, false), (1, false), (2, false)] kk ?_
       refine Fv (.int .i64 (1 + ((lensOf (NetworkParts_v0 m0 a0) : Nat) : Int))) ?_
       refine Fv (.int .i64 (1 + ((lensOf (NetworkParts_v0 m0 a0) : Nat) : Int))) ?_
       refine Fq (.bool false) (r_neq (m := (1 + ((lensOf (NetworkParts_v0 m0 a0) : Nat) : Int))) (n := 1 + ((lensOf (NetworkParts_v0 m0 a0) : Nat) : Int)) rfl ek ek (decide_eq_false (fun h9 => h9 rfl))) ?_
       refine F.es ?_
       refine h34 _ _ ?_
       refine wp_cond_false ek ?_
       refine wp_skip ?_
       refine h33 _ _ ?_
       refine wk fun K35 h35 => ?_
       refine W.region_quiet [(0, false)] kk ?_
       refine Fa (.bool true) ?_
       refine F.es ?_
       refine h35 _ _ ?_
       refine wp_ret ?_
       try simp only [Exit.then]
       refine ret1 (v := .bool true) rfl kk ?_
       exact ⟨rfl, c202⟩

end Go.Proofs.Ytdlcldaogcbnlaa
