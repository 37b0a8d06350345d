/- What the texts behind it build on; conditions: none. -/
import Derived.Test.YtdbgfejeleafgaaPg6
import Derived.Test.YtdbgfejeleafgaaRows
import Derived.ProofKit
import Derived.OpenShut
import Derived.Lib.SmallJoins
import Derived.Deep.Slices
import Derived.Deep.Fields
namespace Go.Proofs.Ytdbgfejeleafgaa
open Go.RowKit
set_option linter.unusedVariables false
set_option linter.unusedSimpArgs false
theorem szL_le {left : Int} {n : Nat} (h : ¬ szL left n < 0) (hr0 : 0 ≤ left) : (n : Int) ≤ left ∧ szL left n ≤ left := by
  by_cases h9 : (n : Int) ≤ left
  · rw [szL_pos h9]; omega
  · rw [szL_neg h9] at h; omega
set_option maxRecDepth 100000 in
set_option maxHeartbeats 8000000 in
theorem w_FnExactNewValveGain (m0 : Int) (x0 : Option Addr) (n0 p0 : Nat) (a0 : List Pp) (x1 : Option Addr) (n1 p1 : Nat) (a1 : List Vv) (a2 : Int) (_k2 : wf64 a2) (a3 : Int) (_k3 : wf64 a3) (a4 : Vv) (_k4 : a4.wf) (x5 : Option Addr) (n5 p5 : Nat) (a5 : List Int) (w : World) (H0 : wf64 m0 ∧ a0.length = n0 ∧ Rd w 4 x0 n0 (pipesV a0) ∧ n0 ≤ maxLen ∧ ∀ p ∈ a0, p.wf) (H1 : a1.length = n1 ∧ Rd w 4 x1 n1 (valvesV a1) ∧ n1 ≤ maxLen ∧ ∀ p ∈ a1, p.wf) (H5 : a5.length = n5 ∧ Rd w 1 x5 n5 (intsV a5) ∧ n5 ≤ maxLen ∧ ∀ n ∈ a5, wf64 n) :
    Calls Try.prog 5 #[.agg #[.int .i64 m0, .slice x0 n0 p0], .slice x1 n1 p1, .int .i64 a2, .int .i64 a3, .agg #[.int .i64 a4.id, .int .i64 a4.pipe, .int .i64 a4.node, .bool a4.shut], .slice x5 n5 p5] w fun e w' => e = .returned (.bool true) ∧ Below w.heap.size w w' := by
 obtain ⟨_, _, hr0, z0, _⟩ := H0
 obtain ⟨_, hr1, z1, _⟩ := H1
 obtain ⟨_, hr5, z5, _⟩ := H5
 unfold maxLen at z0 z1 z5
 have hl0 := rd_pipes_len hr0
 have hl1 := rd_valves_len hr1
 have hl5 := rd_ints_len hr5
 go_enter Try.func5, Try.ntmps5
 refine F.begin 88 [(0, .agg #[.int .i64 m0, .slice x0 n0 p0]), (1, .slice x1 n1 p1), (2, .int .i64 a2), (3, .int .i64 a3), (4, .agg #[.int .i64 a4.id, .int .i64 a4.pipe, .int .i64 a4.node, .bool a4.shut]), (5, .slice x5 n5 p5)] (fun U0 => ?_)
 refine wk fun K1 h1 => ?_
 refine W.region_plain (row := none) [(0, true), (1, true), (2, false)] kk ?_
 have s1 := SG.self w none
 refine W.sn (fun b => .pointer (some ⟨b, 0, none⟩)) #[.int .i64 m0, .slice x0 n0 p0] 54 s1 rfl kk rfl (fun _ => by kernel_rfl) (fun b2 w3 hb4 k5 x6 s7 => ?_)
 apply F.nx
 have lo8 : w.heap.size ≤ b2 := Nl ((Sb (Below.refl _ _) s1 nkk)).size (Nat.le_of_eq hb4)
 refine W.sn (fun b => .pointer (some ⟨b, 0, none⟩)) #[.int .i64 a4.id, .int .i64 a4.pipe, .int .i64 a4.node, .bool a4.shut] 56 s7 rfl kk rfl (fun _ => by kernel_rfl) (fun b9 w10 hb11 k12 x13 s14 => ?_)
 apply F.nx
 have lo15 : w.heap.size ≤ b9 := Nl ((Sb (Below.refl _ _) s7 nkk)).size (Nat.le_of_eq hb11)
 have x6 := (k12.block _ (blk_lt x6)).trans x6
 refine Fa (.bool false) ?_
 apply F.es
 have c17 := (Sb (Below.refl _ _) s14 nkk)
 apply h1
 refine wk fun K2 h2 => ?_
 refine wk fun K3 h3 => ?_
 refine Rq 3 ?_
 refine Fv (.slice x5 n5 p5) ?_
 refine Fq (.int .i64 (n5 : Int)) (r_len (A := x5) (n := n5) (c := p5) rfl ek kk) ?_
 by_cases q18 : ((n5 : Int) : Int) > (1048576 : Int)
 ·refine Fq (.bool true) (r_gtr (m := (n5 : Int)) (n := 1048576) rfl ek ek (dt q18)) ?_
  apply F.es
  apply h3
  refine wp_cond_true ek ?_
  refine wk fun K4 h4 => ?_
  refine Rq 1 ?_
  refine Fa (.bool true) ?_
  apply F.es
  apply h4
  refine wp_ret ?_
  try simp only [Exit.then]
  refine ret1 (v := .bool true) rfl kk ?_
  exact ⟨rfl, c17⟩
 refine Fq (.bool false) (r_gtr (m := (n5 : Int)) (n := 1048576) rfl ek ek (df q18)) ?_
 apply F.es
 apply h3
 refine wp_cond_false ek ?_
 apply wp_skip
 apply h2
 refine wk fun K5 h5 => ?_
 refine Rq 1 ?_
 refine Fa (.int .i64 1048576) ?_
 apply F.es
 apply h5
 refine wk fun K6 h6 => ?_
 refine W.region_plain (row := none) [(0, false), (1, false), (2, true), (3, false)] kk ?_
 have s19 := SG.self w10 none
 refine Fq (.agg #[.int .i64 m0, .slice x0 n0 p0]) (r_load2 rfl ek kk kk (sgS (blk_cell (j := 0) x6 kk) onn) (sgS (blk_cell (j := 1) x6 kk) onn)) ?_
 refine Fv (.int .i64 1048576) ?_
 refine Fc [.agg #[.int .i64 m0, .slice x0 n0 p0], .int .i64 1048576] (szNetwork_any m0 x0 n0 p0 a0 1048576 _ (Rk hr0 (Sb c17 s19 nkk)) (by omega) (by omega) (by omega)) ?_
 rintro e w21 ⟨rfl, b20⟩
 have s22 := SG.of_below s19 b20
 refine ⟨_, rfl, s22, ?_⟩
 apply F.nx
 refine Fa (.int .i64 (szL 1048576 n0)) ?_
 apply F.es
 have x6 := Sk s22 x6 onn
 have x13 := Sk s22 x13 onn
 have c23 := (Sb c17 s22 nkk)
 apply h6
 as_aux_lemma =>
  refine wk fun K7 h7 => ?_
  refine wk fun K8 h8 => ?_
  refine Rq 2 ?_
  refine Fv (.int .i64 (szL 1048576 n0)) ?_
  by_cases q24 : ((szL 1048576 n0) : Int) < (0 : Int)
  ·refine Fq (.bool true) (r_lss (m := (szL 1048576 n0)) (n := 0) rfl ek ek (dt q24)) ?_
   apply F.es
   apply h8
   refine wp_cond_true ek ?_
   refine wk fun K9 h9 => ?_
   refine Rq 1 ?_
   refine Fa (.bool true) ?_
   apply F.es
   apply h9
   refine wp_ret ?_
   try simp only [Exit.then]
   refine ret1 (v := .bool true) rfl kk ?_
   exact ⟨rfl, c23⟩
  have hsz := szL_le q24 (by omega)
  refine Fq (.bool false) (r_lss (m := (szL 1048576 n0)) (n := 0) rfl ek ek (df q24)) ?_
  apply F.es
  apply h8
  refine wp_cond_false ek ?_
  apply wp_skip
  apply h7
  refine wk fun K10 h10 => ?_
  refine W.region_plain (row := none) [(0, false), (1, false), (2, true), (3, false)] kk ?_
  have s25 := SG.self w21 none
  refine Fv (.slice x1 n1 p1) ?_
  refine Fv (.int .i64 (szL 1048576 n0)) ?_
  refine Fc [.slice x1 n1 p1, .int .i64 (szL 1048576 n0)] (szValveS_any x1 n1 p1 (szL 1048576 n0) _ (by omega) (by omega) (by omega)) ?_
  rintro e w' ⟨rfl, rfl⟩
  refine ⟨_, rfl, s25, ?_⟩
  apply F.nx
  refine Fa (.int .i64 (szL (szL 1048576 n0) n1)) ?_
  apply F.es
  have x6 := Sk s25 x6 onn
  have x13 := Sk s25 x13 onn
  have c28 := (Sb c23 s25 nkk)
  apply h10
  refine wk fun K11 h11 => ?_
  refine wk fun K12 h12 => ?_
  refine Rq 2 ?_
  refine Fv (.int .i64 (szL (szL 1048576 n0) n1)) ?_
  by_cases q29 : ((szL (szL 1048576 n0) n1) : Int) < (0 : Int)
  ·refine Fq (.bool true) (r_lss (m := (szL (szL 1048576 n0) n1)) (n := 0) rfl ek ek (dt q29)) ?_
   apply F.es
   apply h12
   refine wp_cond_true ek ?_
   refine wk fun K13 h13 => ?_
   refine Rq 1 ?_
   refine Fa (.bool true) ?_
   apply F.es
   apply h13
   refine wp_ret ?_
   try simp only [Exit.then]
   refine ret1 (v := .bool true) rfl kk ?_
   exact ⟨rfl, c28⟩
  have hsz1 := szL_le q29 (by omega)
  refine Fq (.bool false) (r_lss (m := (szL (szL 1048576 n0) n1)) (n := 0) rfl ek ek (df q29)) ?_
  apply F.es
  apply h12
  as_aux_lemma =>
   refine wp_cond_false ek ?_
   apply wp_skip
   apply h11
   refine wk fun K14 h14 => ?_
   refine W.region_sch (row := none) (Sch.of [(0, false), (2, false), (4, false), (5, false), (6, false), (8, false), (1, true), (3, true), (7, true), (9, true), (10, true), (11, false), (12, false), (13, false), (14, false), (15, false)]) kk kk (fun _ d _ _ _ h => by cases d <;> exact h) kk (fun w30 e31 s32 => ?_)
   refine Fq (.agg #[.int .i64 m0, .slice x0 n0 p0]) (r_load2 rfl ek kk kk (sgS (blk_cell (j := 0) x6 kk) onn) (sgS (blk_cell (j := 1) x6 kk) onn)) ?_
   refine Fv (.slice x1 n1 p1) ?_
   refine Fv (.int .i64 a2) ?_
   refine Fv (.int .i64 a3) ?_
   refine Fq (.agg #[.int .i64 a4.id, .int .i64 a4.pipe, .int .i64 a4.node, .bool a4.shut]) (r_load4 rfl ek kk kk (sgS (blk_cell (j := 0) x13 kk) onn) (sgS (blk_cell (j := 1) x13 kk) onn) (sgS (blk_cell (j := 2) x13 kk) onn) (sgS (blk_cell (j := 3) x13 kk) onn)) ?_
   refine Fv (.slice x5 n5 p5) ?_
   refine Fc [.agg #[.int .i64 m0, .slice x0 n0 p0]] (toNetwork_any m0 x0 n0 p0 a0 _ (Rk hr0 (Sb c28 s32 nkk)) (by omega)) ?_
   rintro e w41 ⟨A33, d34, rfl, r35, b40⟩
   have s42 := SG.of_below s32 b40
   refine ⟨_, rfl, s42, ?_⟩
   apply F.nx
   have rd36 := own_rd r35
   have fm37 := own_fm r35
   have hl38 := rd_pipes_len rd36
   refine Fc [.slice x1 n1 p1] (toValveS_any x1 n1 p1 a1 _ (Rk hr1 (Sb c28 s42 nkk)) (by omega)) ?_
   rintro e w51 ⟨A43, d44, rfl, r45, b50⟩
   have s52 := SG.of_below s42 b50
   refine ⟨_, rfl, s52, ?_⟩
   apply F.nx
   have rd53 := Rk rd36 b50
   have rd46 := own_rd r45
   have fm47 := own_fm r45
   have hl48 := rd_valves_len rd46
   refine Fc [.agg #[.int .i64 a4.id, .int .i64 a4.pipe, .int .i64 a4.node, .bool a4.shut]] (toValve_any a4 _) ?_
   rintro e w55 ⟨rfl, b54⟩
   have s56 := SG.of_below s52 b54
   refine ⟨_, rfl, s56, ?_⟩
   apply F.nx
   have rd57 := Rk rd53 b54
   have rd58 := Rk rd46 b54
   refine Fc [.slice x5 n5 p5] (toIntS_any x5 n5 p5 a5 _ (Rk hr5 (Sb c28 s56 nkk)) (by omega)) ?_
   rintro e w67 ⟨A59, d60, rfl, r61, b66⟩
   have s68 := SG.of_below s56 b66
   refine ⟨_, rfl, s68, ?_⟩
   apply F.nx
   have rd69 := Rk rd57 b66
   have rd70 := Rk rd58 b66
   have rd62 := own_rd r61
   have fm63 := own_fm r61
   have hl64 := rd_ints_len rd62
   refine Fc [.agg #[.int .i64 m0, .slice A33 n0 d34], .slice A43 n1 d44, .int .i64 a2, .int .i64 a3, .agg #[.int .i64 a4.id, .int .i64 a4.pipe, .int .i64 a4.node, .bool a4.shut], .slice A59 n5 d60] (NewValveGain_spec m0 A33 n0 d34 a0 A43 n1 d44 a1 a2 a3 a4 A59 n5 d60 a5 w67 rd69 rd70 rd62 (by omega) (by omega) (by omega) fm37 fm47 fm63) ?_
   rintro e w72 ⟨rfl, b71⟩
   have s73 := SG.of_below s68 b71
   refine ⟨_, rfl, s73, ?_⟩
   apply F.nx
   refine Fv (.tuple #[.int .i64 (NewValveGain_v0 m0 a0 a1 a2 a3 a4 a5), .bool (NewValveGain_v1 m0 a0 a1 a2 a3 a4 a5)]) ?_
   refine Fq (.int .i64 (NewValveGain_v0 m0 a0 a1 a2 a3 a4 a5)) (r_extract (vs := #[.int .i64 (NewValveGain_v0 m0 a0 a1 a2 a3 a4 a5), .bool (NewValveGain_v1 m0 a0 a1 a2 a3 a4 a5)]) rfl ek kk) ?_
   refine Fq (.bool (NewValveGain_v1 m0 a0 a1 a2 a3 a4 a5)) (r_extract (vs := #[.int .i64 (NewValveGain_v0 m0 a0 a1 a2 a3 a4 a5), .bool (NewValveGain_v1 m0 a0 a1 a2 a3 a4 a5)]) rfl ek kk) ?_
   refine Fa (.int .i64 (NewValveGain_v0 m0 a0 a1 a2 a3 a4 a5)) ?_
   refine Fa (.bool (NewValveGain_v1 m0 a0 a1 a2 a3 a4 a5)) ?_
   apply F.es
   have x6 := Sk s73 x6 onn
   have x13 := Sk s73 x13 onn
   have c77 := (Sb c28 s73 nkk)
   apply h14
   as_aux_lemma =>
    refine wk fun K15 h15 => ?_
    refine W.region_plain (row := none) [(0, false), (1, true), (2, true), (3, true)] kk ?_
    have s78 := SG.self w72 none
    refine Fq (.agg #[.int .i64 m0, .slice x0 n0 p0]) (r_load2 rfl ek kk kk (sgS (blk_cell (j := 0) x6 kk) onn) (sgS (blk_cell (j := 1) x6 kk) onn)) ?_
    refine Fc [.agg #[.int .i64 m0, .slice x0 n0 p0]] (toNetwork_any m0 x0 n0 p0 a0 _ (Rk hr0 (Sb c77 s78 nkk)) (by omega)) ?_
    rintro e w87 ⟨A79, d80, rfl, r81, b86⟩
    have s88 := SG.of_below s78 b86
    refine ⟨_, rfl, s88, ?_⟩
    apply F.nx
    have rd82 := own_rd r81
    have fm83 := own_fm r81
    have hl84 := rd_pipes_len rd82
    refine W.sn (fun b => .pointer (some ⟨b, 0, none⟩)) #[.int .i64 0, .slice none 0 0] 26 s88 rfl kk rfl (fun _ => by kernel_rfl) (fun b89 w90 hb91 k92 x93 s94 => ?_)
    apply F.nx
    have lo95 : w.heap.size ≤ b89 := Nl ((Sb c77 s88 nkk)).size (Nat.le_of_eq hb91)
    have sp99 : Sp A79 n0 (some b89) := sp_new rd82 (by have := hb91; omega)
    have rd102 := Rk rd82 k92
    refine W.ss (v := .agg #[.int .i64 m0, .slice A79 n0 d80]) (j := 0) (news := [.int .i64 m0, .slice A79 n0 d80]) (cs' := #[.int .i64 m0, .slice A79 n0 d80]) s94 rfl kk rfl rfl kk kk x93 kk kk (by simp) kk kk (.inr (Nl (s88).size (Nat.le_of_eq hb91))) (fun w103 g104 x105 s106 => ?_)
    have rd107 := rd_sepG rd102 g104 sp99
    apply F.es
    have x6 := Sk s106 x6 onn
    have x13 := Sk s106 x13 onn
    have c108 := (Sb c77 s106 nkk)
    apply h15
    refine wk fun K16 h16 => ?_
    refine W.region_plain (row := none) [(0, false), (1, true), (2, false)] kk ?_
    have s112 := SG.self w103 none
    refine Fv (.slice x1 n1 p1) ?_
    refine Fc [.slice x1 n1 p1] (toValveS_any x1 n1 p1 a1 _ (Rk hr1 (Sb c108 s112 nkk)) (by omega)) ?_
    rintro e w121 ⟨A113, d114, rfl, r115, b120⟩
    have s122 := SG.of_below s112 b120
    refine ⟨_, rfl, s122, ?_⟩
    apply F.nx
    have rd116 := own_rd r115
    have fm117 := own_fm r115
    have hl118 := rd_valves_len rd116
    refine Fa (.slice A113 n1 d114) ?_
    apply F.es
    have x6 := Sk s122 x6 onn
    have x13 := Sk s122 x13 onn
    have x105 := Sk s122 x105 onn
    have c123 := (Sb c108 s122 nkk)
    have rd127 := Rk rd107 (SG.below s122)
    apply h16
    refine wk fun K17 h17 => ?_
    refine W.region_plain (row := none) [(0, false), (1, true), (2, false)] kk ?_
    have s128 := SG.self w121 none
    refine Fv (.slice x5 n5 p5) ?_
    refine Fc [.slice x5 n5 p5] (toIntS_any x5 n5 p5 a5 _ (Rk hr5 (Sb c123 s128 nkk)) (by omega)) ?_
    rintro e w137 ⟨A129, d130, rfl, r131, b136⟩
    have s138 := SG.of_below s128 b136
    refine ⟨_, rfl, s138, ?_⟩
    apply F.nx
    have rd132 := own_rd r131
    have fm133 := own_fm r131
    have hl134 := rd_ints_len rd132
    refine Fa (.slice A129 n5 d130) ?_
    apply F.es
    have x6 := Sk s138 x6 onn
    have x13 := Sk s138 x13 onn
    have x105 := Sk s138 x105 onn
    have c139 := (Sb c123 s138 nkk)
    have rd143 := Rk rd127 (SG.below s138)
    have rd144 := Rk rd116 (SG.below s138)
    apply h17
    as_aux_lemma =>
     refine wk fun K18 h18 => ?_
     refine W.region_sch (row := none) (Sch.of [(0, false), (1, false), (2, false), (3, false), (4, false), (6, false), (5, true), (7, true), (8, false), (9, false), (10, false), (11, false), (12, false)]) kk kk (fun _ d _ _ _ h => by cases d <;> exact h) kk (fun w145 e146 s147 => ?_)
     refine Fq (.agg #[.int .i64 m0, .slice A79 n0 d80]) (r_load2 rfl ek kk kk (sgS (blk_cell (j := 0) x105 kk) onn) (sgS (blk_cell (j := 1) x105 kk) onn)) ?_
     refine Fv (.slice A113 n1 d114) ?_
     refine Fv (.int .i64 a2) ?_
     refine Fv (.int .i64 a3) ?_
     refine Fq (.agg #[.int .i64 a4.id, .int .i64 a4.pipe, .int .i64 a4.node, .bool a4.shut]) (r_load4 rfl ek kk kk (sgS (blk_cell (j := 0) x13 kk) onn) (sgS (blk_cell (j := 1) x13 kk) onn) (sgS (blk_cell (j := 2) x13 kk) onn) (sgS (blk_cell (j := 3) x13 kk) onn)) ?_
     refine Fv (.slice A129 n5 d130) ?_
     refine Fc [.agg #[.int .i64 a4.id, .int .i64 a4.pipe, .int .i64 a4.node, .bool a4.shut]] (toValve_any a4 _) ?_
     rintro e w149 ⟨rfl, b148⟩
     have s150 := SG.of_below s147 b148
     refine ⟨_, rfl, s150, ?_⟩
     apply F.nx
     refine Fc [.agg #[.int .i64 m0, .slice A79 n0 d80], .slice A113 n1 d114, .int .i64 a2, .int .i64 a3, .agg #[.int .i64 a4.id, .int .i64 a4.pipe, .int .i64 a4.node, .bool a4.shut], .slice A129 n5 d130] (NewValveGain_impl m0 A79 n0 d80 a0 A113 n1 d114 a1 a2 a3 a4 A129 n5 d130 a5 w149 (Rk rd143 (SG.below s150)) (Rk rd144 (SG.below s150)) (Rk rd132 (SG.below s150)) (by omega) (by omega) (by omega) fm83 fm117 fm133) ?_
     rintro e w152 ⟨rfl, b151⟩
     have s153 := SG.of_below s150 b151
     refine ⟨_, rfl, s153, ?_⟩
     apply F.nx
     refine Fv (.tuple #[.int .i64 (NewValveGain_v0 m0 a0 a1 a2 a3 a4 a5), .bool (NewValveGain_v1 m0 a0 a1 a2 a3 a4 a5)]) ?_
     refine Fq (.int .i64 (NewValveGain_v0 m0 a0 a1 a2 a3 a4 a5)) (r_extract (vs := #[.int .i64 (NewValveGain_v0 m0 a0 a1 a2 a3 a4 a5), .bool (NewValveGain_v1 m0 a0 a1 a2 a3 a4 a5)]) rfl ek kk) ?_
     refine Fq (.bool (NewValveGain_v1 m0 a0 a1 a2 a3 a4 a5)) (r_extract (vs := #[.int .i64 (NewValveGain_v0 m0 a0 a1 a2 a3 a4 a5), .bool (NewValveGain_v1 m0 a0 a1 a2 a3 a4 a5)]) rfl ek kk) ?_
     refine Fa (.int .i64 (NewValveGain_v0 m0 a0 a1 a2 a3 a4 a5)) ?_
     refine Fa (.bool (NewValveGain_v1 m0 a0 a1 a2 a3 a4 a5)) ?_
     apply F.es
     have x6 := Sk s153 x6 onn
     have x105 := Sk s153 x105 onn
     have c154 := (Sb c139 s153 nkk)
     have rd158 := Rk rd143 (SG.below s153)
     have rd159 := Rk rd144 (SG.below s153)
     have rd160 := Rk rd132 (SG.below s153)
     apply h18
     refine wk fun K19 h19 => ?_
     refine wk fun K20 h20 => ?_
     refine Rq 8 ?_
     refine Fv (.int .i64 (NewValveGain_v0 m0 a0 a1 a2 a3 a4 a5)) ?_
     refine Fv (.int .i64 (NewValveGain_v0 m0 a0 a1 a2 a3 a4 a5)) ?_
     refine Fq (.bool false) (r_neq (m := (NewValveGain_v0 m0 a0 a1 a2 a3 a4 a5)) (n := (NewValveGain_v0 m0 a0 a1 a2 a3 a4 a5)) rfl ek ek (df (by omega))) ?_
     refine Fv (.bool false) ?_
     refine Fv (.bool (NewValveGain_v1 m0 a0 a1 a2 a3 a4 a5)) ?_
     refine Fv (.bool (NewValveGain_v1 m0 a0 a1 a2 a3 a4 a5)) ?_
     refine Fq (.bool false) (r_neqB (m := (NewValveGain_v1 m0 a0 a1 a2 a3 a4 a5)) (n := (NewValveGain_v1 m0 a0 a1 a2 a3 a4 a5)) rfl ek ek kk (by rw [show ((NewValveGain_v1 m0 a0 a1 a2 a3 a4 a5) == (NewValveGain_v1 m0 a0 a1 a2 a3 a4 a5)) = true from beq_iff_eq.2 rfl]; try rfl)) ?_
     refine Fq (.bool false) (r_pick (b := false) rfl ek ek) ?_
     apply F.es
     apply h20
     refine wp_cond_false ek ?_
     apply wp_skip
     apply h19
     refine wk fun K21 h21 => ?_
     refine wk fun K22 h22 => ?_
     refine W.region_sch (row := none) (Sch.of [(0, false), (1, false), (2, true), (3, true), (4, false)]) kk kk (fun _ d _ _ _ h => by cases d <;> exact h) kk (fun w161 e162 s163 => ?_)
     refine Fq (.agg #[.int .i64 m0, .slice A79 n0 d80]) (r_load2 rfl ek kk kk (sgS (blk_cell (j := 0) x105 kk) onn) (sgS (blk_cell (j := 1) x105 kk) onn)) ?_
     refine Fq (.agg #[.int .i64 m0, .slice x0 n0 p0]) (r_load2 rfl ek kk kk (sgS (blk_cell (j := 0) x6 kk) onn) (sgS (blk_cell (j := 1) x6 kk) onn)) ?_
     refine Fc [.agg #[.int .i64 m0, .slice x0 n0 p0]] (toNetwork_any m0 x0 n0 p0 a0 _ (Rk hr0 (Sb c154 s163 nkk)) (by omega)) ?_
     rintro e w172 ⟨A164, d165, rfl, r166, b171⟩
     have s173 := SG.of_below s163 b171
     refine ⟨_, rfl, s173, ?_⟩
     apply F.nx
     have rd167 := own_rd r166
     have hl169 := rd_pipes_len rd167
     refine Fc [.agg #[.int .i64 m0, .slice A79 n0 d80], .agg #[.int .i64 m0, .slice A164 n0 d165]] (eqNetwork_below m0 A79 A164 n0 d80 d165 a0 _ (Rk rd158 (SG.below s173)) rd167 (by omega)) ?_
     rintro e w175 ⟨rfl, b174⟩
     have s176 := SG.of_below s173 b174
     refine ⟨_, rfl, s176, ?_⟩
     apply F.nx
     refine Fq (.bool false) (r_not (b := true) rfl ek rfl) ?_
     apply F.es
     have c178 := (Sb c154 s176 nkk)
     have rd183 := Rk rd159 (SG.below s176)
     have rd184 := Rk rd160 (SG.below s176)
     apply h22
     as_aux_lemma =>
      refine wp_cond_false ek ?_
      apply wp_skip
      apply h21
      refine wk fun K23 h23 => ?_
      refine wk fun K24 h24 => ?_
      refine W.region_plain (row := none) [(0, false), (1, false), (2, true), (3, true), (4, false)] kk ?_
      have s185 := SG.self w175 none
      refine Fv (.slice A113 n1 d114) ?_
      refine Fv (.slice x1 n1 p1) ?_
      refine Fc [.slice x1 n1 p1] (toValveS_any x1 n1 p1 a1 _ (Rk hr1 (Sb c178 s185 nkk)) (by omega)) ?_
      rintro e w194 ⟨A186, d187, rfl, r188, b193⟩
      have s195 := SG.of_below s185 b193
      refine ⟨_, rfl, s195, ?_⟩
      apply F.nx
      have rd189 := own_rd r188
      have hl191 := rd_valves_len rd189
      refine Fc [.slice A113 n1 d114, .slice A186 n1 d187] (eqValveS_below A113 A186 n1 d114 d187 a1 _ (Rk rd183 (SG.below s195)) rd189 (by omega)) ?_
      rintro e w197 ⟨rfl, b196⟩
      have s198 := SG.of_below s195 b196
      refine ⟨_, rfl, s198, ?_⟩
      apply F.nx
      refine Fq (.bool false) (r_not (b := true) rfl ek rfl) ?_
      apply F.es
      have c200 := (Sb c178 s198 nkk)
      have rd206 := Rk rd184 (SG.below s198)
      apply h24
      refine wp_cond_false ek ?_
      apply wp_skip
      apply h23
      refine wk fun K25 h25 => ?_
      refine wk fun K26 h26 => ?_
      refine W.region_plain (row := none) [(0, false), (1, false), (2, true), (3, true), (4, false)] kk ?_
      have s208 := SG.self w197 none
      refine Fv (.slice A129 n5 d130) ?_
      refine Fv (.slice x5 n5 p5) ?_
      refine Fc [.slice x5 n5 p5] (toIntS_any x5 n5 p5 a5 _ (Rk hr5 (Sb c200 s208 nkk)) (by omega)) ?_
      rintro e w217 ⟨A209, d210, rfl, r211, b216⟩
      have s218 := SG.of_below s208 b216
      refine ⟨_, rfl, s218, ?_⟩
      apply F.nx
      have rd212 := own_rd r211
      have hl214 := rd_ints_len rd212
      refine Fc [.slice A129 n5 d130, .slice A209 n5 d210] (eqIntS_below A129 A209 n5 d130 d210 a5 _ (Rk rd206 (SG.below s218)) rd212 (by omega)) ?_
      rintro e w220 ⟨rfl, b219⟩
      have s221 := SG.of_below s218 b219
      refine ⟨_, rfl, s221, ?_⟩
      apply F.nx
      refine Fq (.bool false) (r_not (b := true) rfl ek rfl) ?_
      apply F.es
      have c223 := (Sb c200 s221 nkk)
      apply h26
      as_aux_lemma =>
       refine wp_cond_false ek ?_
       apply wp_skip
       apply h25
       refine wk fun K27 h27 => ?_
       refine Rq 1 ?_
       refine Fa (.bool true) ?_
       apply F.es
       apply h27
       refine wp_ret ?_
       try simp only [Exit.then]
       refine ret1 (v := .bool true) rfl kk ?_
       exact ⟨rfl, c223⟩
end Go.Proofs.Ytdbgfejeleafgaa
namespace Go.Proofs.Ytdbgfejeleafgaa
open Go.RowKit Go.ChangeShapes Go.WideShapes Go.Deep Go.Joins
set_option linter.unusedVariables false
section
variable {H : Type} {enc : TypeId × Value → H} {P : Program} {w : World} {base : Nat} {spare : Nat → Bool} {held : Bool}
theorem open_valve {r : Go.Reach} {b0 : Nat} {t ti tb : TypeId} {f0 f1 f2 f3 : Field} {v : Value} {d : DataW H} {p : List MemPlace} (hs : P.underlying t = some (.struct #[f0, f1, f2, f3])) (hone : oneCellFields P #[f0, f1, f2, f3] = true) (hC : P.cellsOf t = 4)
    (h0 : f0.type = ti) (h1 : f1.type = ti) (h2 : f2.type = ti) (h3 : f3.type = tb) (hi : P.underlying ti = some (.int .i64)) (hb : P.underlying tb = some .bool) (hv : Value.okWide P w r b0 t v) (h : DataW.Trod enc P w base spare held t v d p) :
    ∃ x : Vv, v = x.val ∧ x.wf := by
  obtain ⟨v0, v1, v2, v3, y0, y1, y2, y3, m, rfl, _, _, t0, t1, t2, t3⟩ := open_agg4 hs hone hC hv h
  rw [h0] at t0
  rw [h1] at t1
  rw [h2] at t2
  rw [h3] at t3
  obtain ⟨a, e0, _, wa⟩ := DataW.trod_int hi t0
  obtain ⟨b, e1, _, wb⟩ := DataW.trod_int hi t1
  obtain ⟨c, e2, _, wc⟩ := DataW.trod_int hi t2
  obtain ⟨d', e3, _⟩ := DataW.trod_bool hb t3
  simp at e0 e1 e2 e3
  subst e0 e1 e2 e3
  exact ⟨⟨a, b, c, d'⟩, rfl, wa, wb, wc⟩
theorem addr_form {a : Addr} {u : Value} (h : w.cell? (a.add 0) = some u) : ∃ b off, a = ⟨b, off, none⟩ ∧ b < w.heap.size := by
  obtain ⟨b, off, spot⟩ := a
  have e : (⟨b, off, spot⟩ : Addr).add 0 = ⟨b, off, spot⟩ := by simp [Addr.add]
  rw [e] at h
  have hs : spot = none := World.cell?_spot h
  subst hs
  exact ⟨b, off, rfl, World.block_lt_of_cell? w _ h⟩
theorem add_form (b off j : Nat) : (⟨b, off, none⟩ : Addr).add j = ⟨b, off + j, none⟩ := by
  unfold Addr.add
  by_cases h : j = 0
  · subst h; simp
  · simp [h]
theorem open_nums {t e : TypeId} {k : IntKind} {A : Option Addr} {len cap : Nat} {d : DataW H} {p : List MemPlace} (ht : P.underlying t = some (.slice e)) (he : P.underlying e = some (.int k)) (hc : P.cellsOf e = 1)
    (h : DataW.Trod enc P w base spare held t (.slice A len cap) d p) :
    ∃ zs : List Int, zs.length = len ∧ Rd w 1 A len (zs.map (Value.int k)) ∧ len ≤ maxLen ∧ ∀ n ∈ zs, (Lit.int k n).wf = true := by
  obtain ⟨fuel, hf⟩ := h
  rcases open_ints ht he hc hf with ⟨hcs, _⟩ | ⟨x, l, c, zs, hcs, _, hl, hm, hz, _, hcell, hwz⟩
  · simp [Value.cells] at hcs
    obtain ⟨rfl, rfl, rfl⟩ := hcs
    exact ⟨[], rfl, Rd.nil, Nat.zero_le _, fun n hn => by cases hn⟩
  · simp [Value.cells] at hcs
    obtain ⟨rfl, rfl, rfl⟩ := hcs
    have hle : len ≤ zs.length := by rw [hz]; split <;> omega
    refine ⟨zs.take len, by simp; omega, ⟨by simp; omega, fun hn => ?_⟩, by omega, fun n hn => hwz n (List.mem_of_mem_take hn)⟩
    obtain ⟨b, off, rfl, hb⟩ := addr_form (hcell 0 (by omega))
    refine ⟨b, off, rfl, hb, fun j u hu => ?_⟩
    rw [List.getElem?_map, List.getElem?_take] at hu
    split at hu
    · rename_i hj
      have := hcell j (by omega)
      rw [add_form] at this
      rw [this]
      rw [List.getElem?_eq_getElem (by omega)] at hu
      simp at hu
      rw [← hu, List.getD_eq_getElem?_getD, List.getElem?_eq_getElem (by omega)]; rfl
    · simp at hu
theorem open_rows4 {t e : TypeId} {f0 f1 f2 f3 : Field} {A : Option Addr} {len cap : Nat} {fuel : Nat} {x : DataW H × List MemPlace} (ht : P.underlying t = some (.slice e)) (he : P.underlying e = some (.struct #[f0, f1, f2, f3]))
    (hone : oneCellFields P #[f0, f1, f2, f3] = true) (hC : P.cellsOf e = 4) (h : DataW.trod enc P w base spare held fuel t [.slice A len cap] = some x) :
    len ≤ maxLen ∧ ∃ off b : Nat, (0 < len → A = some ⟨b, off, none⟩ ∧ b < w.heap.size) ∧ ∀ i, i < len → ∃ (n : Nat) (u0 u1 u2 u3 : Value) (y0 y1 y2 y3 : DataW H × List MemPlace),
      (w.cell? ⟨b, off + (i * 4 + 0), none⟩ = some u0 ∧ DataW.trod enc P w base spare held n f0.type [u0] = some y0) ∧ (w.cell? ⟨b, off + (i * 4 + 1), none⟩ = some u1 ∧ DataW.trod enc P w base spare held n f1.type [u1] = some y1) ∧
      (w.cell? ⟨b, off + (i * 4 + 2), none⟩ = some u2 ∧ DataW.trod enc P w base spare held n f2.type [u2] = some y2) ∧ (w.cell? ⟨b, off + (i * 4 + 3), none⟩ = some u3 ∧ DataW.trod enc P w base spare held n f3.type [u3] = some y3) := by
  rcases open_slice ht h with ⟨hcs, _⟩ | ⟨a, l, c, m, n, D, Pl, hcs, hb, hl, hm, hmm, hx, hi⟩
  · simp at hcs
    obtain ⟨rfl, rfl, rfl⟩ := hcs
    exact ⟨Nat.zero_le _, 0, 0, fun h => absurd h (by omega), fun i h => absurd h (by omega)⟩
  · simp at hcs
    obtain ⟨rfl, rfl, rfl⟩ := hcs
    rw [hC] at hi
    have hlm : len ≤ m := by rw [hmm]; split <;> omega
    obtain ⟨o0, k0⟩ := hone_of hone 0 f0 rfl
    obtain ⟨o1, k1⟩ := hone_of hone 1 f1 rfl
    obtain ⟨o2, k2⟩ := hone_of hone 2 f2 rfl
    obtain ⟨o3, k3⟩ := hone_of hone 3 f3 rfl
    have each : ∀ i, i < len → ∃ (n : Nat) (u0 u1 u2 u3 : Value) (y0 y1 y2 y3 : DataW H × List MemPlace),
      (w.cell? ((a.add (i * 4)).add 0) = some u0 ∧ DataW.trod enc P w base spare held n f0.type [u0] = some y0) ∧ (w.cell? ((a.add (i * 4)).add 1) = some u1 ∧ DataW.trod enc P w base spare held n f1.type [u1] = some y1) ∧
      (w.cell? ((a.add (i * 4)).add 2) = some u2 ∧ DataW.trod enc P w base spare held n f2.type [u2] = some y2) ∧ (w.cell? ((a.add (i * 4)).add 3) = some u3 ∧ DataW.trod enc P w base spare held n f3.type [u3] = some y3) := by
      intro i him
      obtain ⟨cs', hc, ht'⟩ := hi i (by omega)
      obtain ⟨_, hcl, hat⟩ := World.cells?_some hc
      obtain ⟨xs, n', _, _, _, hxl, hf⟩ := DataW.trod_struct he ht'
      match cs', hcl with
      | [u0, u1, u2, u3], _ =>
        match xs, hxl with
        | [y0, y1, y2, y3], _ =>
          have t0 := hf 0 f0 rfl
          have t1 := hf 1 f1 rfl
          have t2 := hf 2 f2 rfl
          have t3 := hf 3 f3 rfl
          rw [o0, k0] at t0
          rw [o1, k1] at t1
          rw [o2, k2] at t2
          rw [o3, k3] at t3
          exact ⟨n', u0, u1, u2, u3, y0, y1, y2, y3, ⟨hat 0 (by omega), t0⟩, ⟨hat 1 (by omega), t1⟩, ⟨hat 2 (by omega), t2⟩, ⟨hat 3 (by omega), t3⟩⟩
    by_cases hn : 0 < len
    · obtain ⟨n0, u0, _, _, _, _, _, _, _, ⟨hc0, _⟩, _⟩ := each 0 hn
      have : ∃ b off, a = ⟨b, off, none⟩ ∧ b < w.heap.size := by
        rw [Nat.zero_mul] at hc0
        have e : (a.add 0).add 0 = a.add 0 := by unfold Addr.add; simp
        rw [e] at hc0
        exact addr_form hc0
      obtain ⟨b, off, rfl, hb'⟩ := this
      refine ⟨by omega, off, b, fun _ => ⟨rfl, hb'⟩, fun i hi => ?_⟩
      have := each i hi
      simp only [add_form, Nat.add_assoc] at this
      exact this
    · exact ⟨by omega, 0, 0, fun h => absurd h hn, fun i h => absurd h (by omega)⟩
theorem rows4_rd {α : Type} (f : α → List Value) (hf : ∀ a, (f a).length = 4) {A : Option Addr} {len off b : Nat} (hA : 0 < len → A = some ⟨b, off, none⟩ ∧ b < w.heap.size) (l : List α) (hl : l.length = len)
    (hq : ∀ i a, l[i]? = some a → ∀ j u, (f a)[j]? = some u → w.cell? ⟨b, off + (i * 4 + j), none⟩ = some u) : Rd w 4 A len (l.flatMap f) := by
  refine ⟨by rw [flat_len f 4 hf, hl], fun hn => ?_⟩
  obtain ⟨e, hb⟩ := hA hn
  refine ⟨b, off, e, hb, fun j u hu => ?_⟩
  rw [flat_get f 4 (by omega) hf] at hu
  obtain ⟨a, ha, hu⟩ := Option.bind_eq_some_iff.1 hu
  have := hq _ a ha _ u hu
  rwa [show j / 4 * 4 + j % 4 = j by omega] at this
theorem open_pipes_of {t e ti : TypeId} {f0 f1 f2 f3 : Field} {A : Option Addr} {len cap : Nat} {fuel : Nat} {x : DataW H × List MemPlace} (ht : P.underlying t = some (.slice e)) (he : P.underlying e = some (.struct #[f0, f1, f2, f3]))
    (hone : oneCellFields P #[f0, f1, f2, f3] = true) (hC : P.cellsOf e = 4) (h0 : f0.type = ti) (h1 : f1.type = ti) (h2 : f2.type = ti) (h3 : f3.type = ti) (hi : P.underlying ti = some (.int .i64))
    (h : DataW.trod enc P w base spare held fuel t [.slice A len cap] = some x) :
    ∃ ps : List Pp, ps.length = len ∧ Rd w 4 A len (pipesV ps) ∧ len ≤ maxLen ∧ ∀ p ∈ ps, p.wf := by
  obtain ⟨hm, off, b, hA, each⟩ := open_rows4 ht he hone hC h
  obtain ⟨ps, hl, hq⟩ := list_of_all (fun i (p : Pp) => p.wf ∧ ∀ j u, p.vals[j]? = some u → w.cell? ⟨b, off + (i * 4 + j), none⟩ = some u) len (fun i hi' => by
    obtain ⟨n, u0, u1, u2, u3, y0, y1, y2, y3, ⟨c0, t0⟩, ⟨c1, t1⟩, ⟨c2, t2⟩, ⟨c3, t3⟩⟩ := each i hi'
    rw [h0] at t0
    rw [h1] at t1
    rw [h2] at t2
    rw [h3] at t3
    obtain ⟨a, e0, _, wa⟩ := DataW.trod_int hi t0
    obtain ⟨b', e1, _, wb⟩ := DataW.trod_int hi t1
    obtain ⟨c, e2, _, wc⟩ := DataW.trod_int hi t2
    obtain ⟨d', e3, _, wd⟩ := DataW.trod_int hi t3
    simp at e0 e1 e2 e3
    subst e0 e1 e2 e3
    refine ⟨⟨a, b', c, d'⟩, ⟨wa, wb, wc, wd⟩, fun j u hu => ?_⟩
    match j, hu with
    | 0, hu => simp [Pp.vals] at hu; subst hu; exact c0
    | 1, hu => simp [Pp.vals] at hu; subst hu; exact c1
    | 2, hu => simp [Pp.vals] at hu; subst hu; exact c2
    | 3, hu => simp [Pp.vals] at hu; subst hu; exact c3
    | j + 4, hu => simp [Pp.vals] at hu)
  refine ⟨ps, hl, rows4_rd Pp.vals (fun _ => rfl) hA ps hl (fun i a ha => (hq i a ha).2), hm, fun p hp => ?_⟩
  obtain ⟨i, hi', rfl⟩ := List.getElem_of_mem hp
  exact (hq i _ (List.getElem?_eq_getElem hi')).1
theorem open_valves_of {t e ti tb : TypeId} {f0 f1 f2 f3 : Field} {A : Option Addr} {len cap : Nat} {fuel : Nat} {x : DataW H × List MemPlace} (ht : P.underlying t = some (.slice e)) (he : P.underlying e = some (.struct #[f0, f1, f2, f3]))
    (hone : oneCellFields P #[f0, f1, f2, f3] = true) (hC : P.cellsOf e = 4) (h0 : f0.type = ti) (h1 : f1.type = ti) (h2 : f2.type = ti) (h3 : f3.type = tb) (hi : P.underlying ti = some (.int .i64)) (hbo : P.underlying tb = some .bool)
    (h : DataW.trod enc P w base spare held fuel t [.slice A len cap] = some x) :
    ∃ ps : List Vv, ps.length = len ∧ Rd w 4 A len (valvesV ps) ∧ len ≤ maxLen ∧ ∀ p ∈ ps, p.wf := by
  obtain ⟨hm, off, b, hA, each⟩ := open_rows4 ht he hone hC h
  obtain ⟨ps, hl, hq⟩ := list_of_all (fun i (p : Vv) => p.wf ∧ ∀ j u, p.vals[j]? = some u → w.cell? ⟨b, off + (i * 4 + j), none⟩ = some u) len (fun i hi' => by
    obtain ⟨n, u0, u1, u2, u3, y0, y1, y2, y3, ⟨c0, t0⟩, ⟨c1, t1⟩, ⟨c2, t2⟩, ⟨c3, t3⟩⟩ := each i hi'
    rw [h0] at t0
    rw [h1] at t1
    rw [h2] at t2
    rw [h3] at t3
    obtain ⟨a, e0, _, wa⟩ := DataW.trod_int hi t0
    obtain ⟨b', e1, _, wb⟩ := DataW.trod_int hi t1
    obtain ⟨c, e2, _, wc⟩ := DataW.trod_int hi t2
    obtain ⟨d', e3, _⟩ := DataW.trod_bool hbo t3
    simp at e0 e1 e2 e3
    subst e0 e1 e2 e3
    refine ⟨⟨a, b', c, d'⟩, ⟨wa, wb, wc⟩, fun j u hu => ?_⟩
    match j, hu with
    | 0, hu => simp [Vv.vals] at hu; subst hu; exact c0
    | 1, hu => simp [Vv.vals] at hu; subst hu; exact c1
    | 2, hu => simp [Vv.vals] at hu; subst hu; exact c2
    | 3, hu => simp [Vv.vals] at hu; subst hu; exact c3
    | j + 4, hu => simp [Vv.vals] at hu)
  refine ⟨ps, hl, rows4_rd Vv.vals (fun _ => rfl) hA ps hl (fun i a ha => (hq i a ha).2), hm, fun p hp => ?_⟩
  obtain ⟨i, hi', rfl⟩ := List.getElem_of_mem hp
  exact (hq i _ (List.getElem?_eq_getElem hi')).1
theorem open_valves {t e ti tb : TypeId} {f0 f1 f2 f3 : Field} {A : Option Addr} {len cap : Nat} {d : DataW H} {p : List MemPlace} (ht : P.underlying t = some (.slice e)) (he : P.underlying e = some (.struct #[f0, f1, f2, f3]))
    (hone : oneCellFields P #[f0, f1, f2, f3] = true) (hC : P.cellsOf e = 4) (h0 : f0.type = ti) (h1 : f1.type = ti) (h2 : f2.type = ti) (h3 : f3.type = tb) (hi : P.underlying ti = some (.int .i64)) (hbo : P.underlying tb = some .bool)
    (h : DataW.Trod enc P w base spare held t (.slice A len cap) d p) :
    ∃ ps : List Vv, ps.length = len ∧ Rd w 4 A len (valvesV ps) ∧ len ≤ maxLen ∧ ∀ p ∈ ps, p.wf := by
  obtain ⟨fuel, hf⟩ := h
  exact open_valves_of ht he hone hC h0 h1 h2 h3 hi hbo (show DataW.trod enc P w base spare held fuel t [.slice A len cap] = some (d, p) from hf)
theorem open_network {r : Go.Reach} {b0 : Nat} {t ts e ti : TypeId} {g0 g1 f0 f1 f2 f3 : Field} {v : Value} {d : DataW H} {p : List MemPlace} (hs : P.underlying t = some (.struct #[g0, g1])) (hone : oneCellFields P #[g0, g1] = true) (hC : P.cellsOf t = 2)
    (k0 : g0.type = ti) (k1 : g1.type = ts) (hi : P.underlying ti = some (.int .i64)) (hsl : P.underlying ts = some (.slice e)) (he : P.underlying e = some (.struct #[f0, f1, f2, f3])) (hone' : oneCellFields P #[f0, f1, f2, f3] = true) (hC' : P.cellsOf e = 4)
    (h0 : f0.type = ti) (h1 : f1.type = ti) (h2 : f2.type = ti) (h3 : f3.type = ti) (hv : Value.okWide P w r b0 t v) (h : DataW.Trod enc P w base spare held t v d p) :
    ∃ (n : Int) (A : Option Addr) (len cap : Nat) (ps : List Pp), v = .agg #[.int .i64 n, .slice A len cap] ∧ wf64 n ∧ ps.length = len ∧ Rd w 4 A len (pipesV ps) ∧ len ≤ maxLen ∧ ∀ p ∈ ps, p.wf := by
  obtain ⟨v0, v1, y0, y1, m, rfl, _, _, t0, t1⟩ := open_agg2 hs hone hC hv h
  rw [k0] at t0
  rw [k1] at t1
  obtain ⟨n, e0, _, wn⟩ := DataW.trod_int hi t0
  simp at e0
  subst e0
  have hform : ∃ A len cap, v1 = .slice A len cap := by
    rcases DataW.trod_slice hsl t1 with ⟨e, _⟩ | ⟨a, l, c, _, _, _, _, e, _⟩
    · simp at e; exact ⟨_, _, _, e⟩
    · simp at e; exact ⟨_, _, _, e⟩
  obtain ⟨A, len, cap, rfl⟩ := hform
  obtain ⟨ps, hl, hr, hm, hw⟩ := open_pipes_of hsl he hone' hC' h0 h1 h2 h3 hi t1
  exact ⟨n, A, len, cap, ps, rfl, wn, hl, hr, hm, hw⟩
end
end Go.Proofs.Ytdbgfejeleafgaa
