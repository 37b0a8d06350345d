/- What the texts behind it build on; conditions: none. -/
import Derived.Test.YtdlcldaogcbnlaaDoorPk6
import Derived.Lib.Overlaps
namespace Go.Proofs.YtdlcldaogcbnlaaDoor
open Go.RowKit
set_option linter.unusedVariables false
set_option linter.unusedSimpArgs false
set_option maxRecDepth 100000 in
set_option maxHeartbeats 8000000 in
theorem AddPipe_spec (m : Int) (A : Option Addr) (n c : Nat) (ps : List Pp) (x : Pp) (w : World) (ha : Rd w 4 A n (pipesV ps)) (hn : n ≤ 1048576) (hf : Fm A n c) :
    Calls Tryd.prog 20 #[.agg #[.int .i64 m, .slice A n c], .agg #[.int .i64 x.id, .int .i64 x.fr, .int .i64 x.to, .int .i64 x.sz]] w fun e w' => ∃ A' d, e = .returned (.tuple #[.agg #[.int .i64 (AddPipe_m0 m ps x), .slice A' (AddPipe_v0 m ps x).length d], .bool (AddPipe_v1 m ps x)]) ∧ Rd w' 4 A' (AddPipe_v0 m ps x).length (pipesV (AddPipe_v0 m ps x)) ∧ Below w.heap.size w w' := by
 have hl := rd_pipes_len ha
 go_enter Tryd.func20, Tryd.ntmps20
 refine F.begin 59 [(0, .agg #[.int .i64 m, .slice A n c]), (1, .agg #[.int .i64 x.id, .int .i64 x.fr, .int .i64 x.to, .int .i64 x.sz])] (fun U0 => ?_)
 refine wk fun K1 h1 => ?_
 refine W.region_plain (row := none) [(0, true), (1, true), (2, true), (3, false)] kk ?_
 have s1 := SG.self w none
 refine W.sn (fun b => .pointer (some ⟨b, 0, none⟩)) #[.int .i64 m, .slice A n c] 24 s1 rfl kk rfl (fun _ => by kernel_rfl) (fun b2 w3 hb4 k5 x6 s7 => ?_)
 apply F.nx
 have lo8 : w.heap.size ≤ b2 := Nl ((Sb (Below.refl _ _) s1 nkk)).size (Nat.le_of_eq hb4)
 refine W.sn (fun b => .pointer (some ⟨b, 0, none⟩)) #[.int .i64 x.id, .int .i64 x.fr, .int .i64 x.to, .int .i64 x.sz] 38 s7 rfl kk rfl (fun _ => by kernel_rfl) (fun b9 w10 hb11 k12 x13 s14 => ?_)
 apply F.nx
 have lo15 : w.heap.size ≤ b9 := Nl ((Sb (Below.refl _ _) s7 nkk)).size (Nat.le_of_eq hb11)
 have x6 := (k12.block _ (blk_lt x6)).trans x6
 refine W.sn (fun b => .pointer (some ⟨b, 0, none⟩)) #[.int .i64 0, .slice none 0 0] 24 s14 rfl kk rfl (fun _ => by kernel_rfl) (fun b17 w18 hb19 k20 x21 s22 => ?_)
 apply F.nx
 have lo23 : w.heap.size ≤ b17 := Nl ((Sb (Below.refl _ _) s14 nkk)).size (Nat.le_of_eq hb19)
 have ne24 : b2 ≠ b17 := Nat.ne_of_lt (Nat.lt_of_lt_of_eq (blk_lt x6) hb19)
 have ne25 : b9 ≠ b17 := Nat.ne_of_lt (Nat.lt_of_lt_of_eq (blk_lt x13) hb19)
 have x6 := (k20.block _ (blk_lt x6)).trans x6
 have x13 := (k20.block _ (blk_lt x13)).trans x13
 refine Fa (.bool false) ?_
 apply F.es
 have c26 := (Sb (Below.refl _ _) s22 nkk)
 apply h1
 refine wk fun K2 h2 => ?_
 refine wk fun K3 h3 => ?_
 refine W.region_plain (row := none) [(0, false), (1, true), (2, false), (3, false), (4, false), (5, false), (6, false), (7, true), (8, false), (9, false)] kk ?_
 have s27 := SG.self w18 none
 refine Fq (.agg #[.int .i64 m, .slice A n c]) (r_load2 rfl ek kk kk (sgS (blk_cell (j := 0) x6 kk) onn) (sgS (blk_cell (j := 1) x6 kk) onn)) ?_
 refine Fc [.agg #[.int .i64 m, .slice A n c]] (l2Good_any m A n c ps _ (Rk ha (Sb c26 s27 nkk)) (by omega)) ?_
 rintro e w29 ⟨rfl, b28⟩
 have s30 := SG.of_below s27 b28
 refine ⟨_, rfl, s30, ?_⟩
 apply F.nx
 rcases Bool.eq_false_or_eq_true (goodN m ps) with q31 | q31
 ·rw [q31]
  have hgl32 := (good_of q31).len
  refine Fq (.bool false) (r_not (b := true) rfl ek rfl) ?_
  refine Fv (.bool false) ?_
  refine Fq (.agg #[.int .i64 m, .slice A n c]) (r_load2 rfl ek kk kk (sgS (blk_cell (j := 0) x6 kk) onn) (sgS (blk_cell (j := 1) x6 kk) onn)) ?_
  refine Fq (.pointer (some ⟨b9, 0, none⟩)) (r_field0 rfl ek kk) ?_
  refine Fl (.int .i64 x.id) (sgS (blk_cell (j := 0) x13 kk) onn) ?_
  refine Fc [.agg #[.int .i64 m, .slice A n c], .int .i64 x.id] (l2Find_any m A n c ps x.id _ (Rk ha (Sb c26 s30 nkk)) (by omega)) ?_
  rintro e w34 ⟨rfl, b33⟩
  have s35 := SG.of_below s30 b33
  refine ⟨_, rfl, s35, ?_⟩
  apply F.nx
  by_cases q36 : (findL ps x.id : Int) ≥ (0 : Int)
  ·refine Fq (.bool true) (r_geq (m := findL ps x.id) (n := 0) rfl ek ek (dt q36)) ?_
   refine Fq (.bool true) (r_pick (b := false) rfl ek ek) ?_
   apply F.es
   have x6 := Sk s35 x6 onn
   have x13 := Sk s35 x13 onn
   have x21 := Sk s35 x21 onn
   have c37 := (Sb c26 s35 nkk)
   apply h3
   refine wp_cond_true ek ?_
   refine wk fun K4 h4 => ?_
   refine W.region_plain (row := (some b17)) [(0, false), (1, true), (2, false)] kk ?_
   have s38 := SG.self w34 (some b17)
   refine Fq (.agg #[.int .i64 0, .slice none 0 0]) (r_build rfl (vs := []) kk kk) ?_
   refine W.ss (v := .agg #[.int .i64 0, .slice none 0 0]) (j := 0) (news := [.int .i64 0, .slice none 0 0]) (cs' := #[.int .i64 0, .slice none 0 0]) s38 rfl kk rfl rfl kk kk x21 kk kk (by simp) kk kk (.inl rfl) (fun w39 g40 x41 s42 => ?_)
   refine Fa (.bool false) ?_
   apply F.es
   have x6 := Sk s42 x6 (fun e9 => ne24 (Option.some.inj e9))
   have x13 := Sk s42 x13 (fun e9 => ne25 (Option.some.inj e9))
   have c43 := (Sb c37 s42 (fun kq e => by cases e; exact lo23))
   apply h4
   as_aux_lemma =>
    refine wp_ret ?_
    try simp only [Exit.then]
    refine retCT (x := .bool false) rfl kk kk kk kk x41 ?_
    exact fin_rdn (rd_none4 _) (add_two (by omega)).2.2.symm (add_two (by omega)).2.1.symm (add_two (by omega)).1.symm c43
  refine Fq (.bool false) (r_geq (m := findL ps x.id) (n := 0) rfl ek ek (df q36)) ?_
  refine Fq (.bool false) (r_pick (b := false) rfl ek ek) ?_
  apply F.es
  have x6 := Sk s35 x6 onn
  have x13 := Sk s35 x13 onn
  have x21 := Sk s35 x21 onn
  have c44 := (Sb c26 s35 nkk)
  apply h3
  refine wp_cond_false ek ?_
  apply wp_skip
  apply h2
  refine wk fun K5 h5 => ?_
  refine Rq 1 ?_
  refine Fa (.int .i64 0) ?_
  apply F.es
  apply h5
  refine joinK (fun amj1 aaj1 wlj1 => ∃ (k2 : Nat) , Kn aaj1 [(2, .pointer (some ⟨b2, 0, none⟩)), (3, .pointer (some ⟨b9, 0, none⟩)), (4, .pointer (some ⟨b17, 0, none⟩)), (5, .bool false), (6, .int .i64 (k2 : Int))] 59 ∧ (amj1 = 0) ∧ (k2 ≤ n) ∧ (insAtP ps x.id = k2) ∧ (wlj1.heap[b2]? = some (.cells #[.int .i64 m, .slice A n c] 24 (0, 0))) ∧ (wlj1.heap[b9]? = some (.cells #[.int .i64 x.id, .int .i64 x.fr, .int .i64 x.to, .int .i64 x.sz] 38 (0, 0))) ∧ (wlj1.heap[b17]? = some (.cells #[.int .i64 0, .slice none 0 0] 24 (0, 0))) ∧ (Below w.heap.size w wlj1)) ?_ ?_
  ·rintro amj1 aaj1 wlj1 ⟨k2, ⟨Uj1, rfl⟩, rfl, hk2, hkk, x6, x13, x21, c45⟩
   refine joinK (fun _ aa7 wl7 => ∃ (A7 : Option Addr) (n7 c7 g7 : Nat) (U7 : Nat → Value), aa7 = ⟨(fr U7 [(2, .pointer (some ⟨b2, 0, none⟩)), (3, .pointer (some ⟨b9, 0, none⟩)), (4, .pointer (some ⟨b17, 0, none⟩)), (5, .bool false), (6, .int .i64 (k2 : Int)), (7, .pointer (some ⟨g7, 0, none⟩))] 59 0).toArray, []⟩ ∧ (wl7.heap[b2]? = some (.cells #[.int .i64 m, .slice A n c] 24 (0, 0))) ∧ (wl7.heap[b9]? = some (.cells #[.int .i64 x.id, .int .i64 x.fr, .int .i64 x.to, .int .i64 x.sz] 38 (0, 0))) ∧ (wl7.heap[b17]? = some (.cells #[.int .i64 0, .slice none 0 0] 24 (0, 0))) ∧ (wl7.heap[g7]? = some (.cells #[.int .i64 m, .slice A7 n7 c7] 24 (0, 0))) ∧ (w.heap.size ≤ g7) ∧ (wl7.ownsRow w.heap.size 38 4 (.slice A7 n7 c7) n7 (pipesV (ps.take k2 ++ [x] ++ ps.drop k2))) ∧ (n7 ≤ n + 1) ∧ (Nb b2 (.slice A7 n7 c7)) ∧ (Nb b9 (.slice A7 n7 c7)) ∧ (Nb b17 (.slice A7 n7 c7)) ∧ (Nb g7 (.slice A7 n7 c7)) ∧ (b2 ≠ g7) ∧ (b9 ≠ g7) ∧ (b17 ≠ g7) ∧ (Below w.heap.size w wl7)) ?_ ?_
   ·rintro am7 aa7 wl7 ⟨A7, n7, c7, g7, U7, rfl, x6, x13, x21, hx7, hlo7, ho7, hn7, nb7_0, nb7_1, nb7_2, nb7_g, ne7_0, ne7_1, ne7_2, c7b⟩
    refine wk fun K6 h6 => ?_
    refine wk fun K7 h7 => ?_
    refine W.region_plain (row := none) [(0, false), (1, true), (2, false)] kk ?_
    have s46 := SG.self wl7 none
    refine Fq (.agg #[.int .i64 m, .slice A7 n7 c7]) (r_load2 rfl ek kk kk (sgS (blk_cell (j := 0) hx7 kk) onn) (sgS (blk_cell (j := 1) hx7 kk) onn)) ?_
    refine Fc [.agg #[.int .i64 m, .slice A7 n7 c7]] (l2Good_any m A7 n7 c7 (ps.take k2 ++ [x] ++ ps.drop k2) _ (own_rd ho7) (by omega)) ?_
    rintro e w48 ⟨rfl, b47⟩
    have s49 := SG.of_below s46 b47
    refine ⟨_, rfl, s49, ?_⟩
    apply F.nx
    have ho50 := own_kept ho7 b47
    rcases Bool.eq_false_or_eq_true (goodN m (ps.take k2 ++ [x] ++ ps.drop k2)) with q51 | q51
    ·rw [q51]
     have hgl52 := (good_of q51).len
     refine Fq (.bool false) (r_not (b := true) rfl ek rfl) ?_
     apply F.es
     have x6 := Sk s49 x6 onn
     have x13 := Sk s49 x13 onn
     have x21 := Sk s49 x21 onn
     have hx7 := Sk s49 hx7 onn
     have c53 := (Sb c7b s49 nkk)
     apply h7
     refine wp_cond_false ek ?_
     apply wp_skip
     apply h6
     refine wk fun K8 h8 => ?_
     refine W.region_plain (row := (some b17)) [(0, false), (1, true), (2, false)] kk ?_
     have s54 := SG.self w48 (some b17)
     refine Fq (.agg #[.int .i64 m, .slice A7 n7 c7]) (r_load2 rfl ek kk kk (sgS (blk_cell (j := 0) hx7 kk) (fun e9 => ne7_2 (Option.some.inj e9).symm)) (sgS (blk_cell (j := 1) hx7 kk) (fun e9 => ne7_2 (Option.some.inj e9).symm))) ?_
     refine W.ss (v := .agg #[.int .i64 m, .slice A7 n7 c7]) (j := 0) (news := [.int .i64 m, .slice A7 n7 c7]) (cs' := #[.int .i64 m, .slice A7 n7 c7]) s54 rfl kk rfl rfl kk kk x21 kk kk (by simp) kk kk (.inl rfl) (fun w55 g56 x57 s58 => ?_)
     have ho59 := own_grown ho50 g56 (fun j e1 e2 => by cases e2; exact nb7_2 e1.symm)
     refine Fa (.bool true) ?_
     apply F.es
     have x6 := Sk s58 x6 (fun e9 => ne24 (Option.some.inj e9))
     have x13 := Sk s58 x13 (fun e9 => ne25 (Option.some.inj e9))
     have hx7 := Sk s58 hx7 (fun e9 => ne7_2 (Option.some.inj e9).symm)
     have c60 := (Sb c53 s58 (fun kq e => by cases e; exact lo23))
     apply h8
     as_aux_lemma =>
      refine wp_ret ?_
      try simp only [Exit.then]
      refine retCT (x := .bool true) rfl kk kk kk kk x57 ?_
      have hm9 : moreP ps x = (ps.take k2 ++ [x] ++ ps.drop k2) := moreP_is' hkk
      exact fin_rdn (own_rd ho59) (add_of q31 hm9 q51).2.2.symm (add_of q31 hm9 q51).2.1.symm (add_of q31 hm9 q51).1.symm c60
    rw [q51]
    refine Fq (.bool true) (r_not (b := false) rfl ek rfl) ?_
    apply F.es
    have x6 := Sk s49 x6 onn
    have x13 := Sk s49 x13 onn
    have x21 := Sk s49 x21 onn
    have hx7 := Sk s49 hx7 onn
    have c61 := (Sb c7b s49 nkk)
    apply h7
    refine wp_cond_true ek ?_
    refine wk fun K9 h9 => ?_
    refine W.region_plain (row := (some b17)) [(0, false), (1, true), (2, false)] kk ?_
    have s62 := SG.self w48 (some b17)
    refine Fq (.agg #[.int .i64 0, .slice none 0 0]) (r_build rfl (vs := []) kk kk) ?_
    refine W.ss (v := .agg #[.int .i64 0, .slice none 0 0]) (j := 0) (news := [.int .i64 0, .slice none 0 0]) (cs' := #[.int .i64 0, .slice none 0 0]) s62 rfl kk rfl rfl kk kk x21 kk kk (by simp) kk kk (.inl rfl) (fun w63 g64 x65 s66 => ?_)
    refine Fa (.bool false) ?_
    apply F.es
    have x6 := Sk s66 x6 (fun e9 => ne24 (Option.some.inj e9))
    have x13 := Sk s66 x13 (fun e9 => ne25 (Option.some.inj e9))
    have hx7 := Sk s66 hx7 (fun e9 => ne7_2 (Option.some.inj e9).symm)
    have c68 := (Sb c61 s66 (fun kq e => by cases e; exact lo23))
    apply h9
    refine wp_ret ?_
    try simp only [Exit.then]
    refine retCT (x := .bool false) rfl kk kk kk kk x65 ?_
    have hm9 : moreP ps x = (ps.take k2 ++ [x] ++ ps.drop k2) := moreP_is' hkk
    exact fin_rdn (rd_none4 _) (add_bad hm9 q51).2.2.symm (add_bad hm9 q51).2.1.symm (add_bad hm9 q51).1.symm c68
   intro K10 h10
   refine W.region_sch (row := none) (Sch.app [(0, false), (1, false), (3, false), (4, false), (5, false), (6, false), (8, false), (11, false), (12, false), (13, false), (14, false)] (.br3 2 9 17 (Sch.app [] (.br3 7 9 17 (Sch.app [] (.br 9 17 (Sch.app [] (.br 10 17 (Sch.app [] (.br 15 17 (Sch.of [(16, false), (17, true), (18, true)]) (Sch.of [(15, true), (16, false), (18, true)]))) (Sch.of [(10, true), (15, true), (16, false), (18, true)]))) (Sch.of [(9, true), (10, true), (15, true), (16, false), (18, true)]))) (Sch.app [] (.br 7 17 (Sch.app [] (.br 10 17 (Sch.app [] (.br 15 17 (Sch.of [(16, false), (17, true), (18, true)]) (Sch.of [(15, true), (16, false), (18, true)]))) (Sch.of [(10, true), (15, true), (16, false), (18, true)]))) (Sch.of [(7, true), (10, true), (15, true), (16, false), (18, true)]))) (Sch.app [] (.br 7 9 (Sch.of [(9, true), (10, true), (15, true), (16, false), (18, true)]) (Sch.of [(7, true), (10, true), (15, true), (16, false), (18, true)]))))) (Sch.app [] (.br 2 17 (Sch.app [] (.br 7 17 (Sch.app [] (.br 10 17 (Sch.app [] (.br 15 17 (Sch.of [(16, false), (17, true), (18, true)]) (Sch.of [(15, true), (16, false), (18, true)]))) (Sch.of [(10, true), (15, true), (16, false), (18, true)]))) (Sch.of [(7, true), (10, true), (15, true), (16, false), (18, true)]))) (Sch.of [(2, true), (7, true), (10, true), (15, true), (16, false), (18, true)]))) (Sch.app [] (.br 2 9 (Sch.app [] (.br 7 9 (Sch.of [(9, true), (10, true), (15, true), (16, false), (18, true)]) (Sch.of [(7, true), (10, true), (15, true), (16, false), (18, true)]))) (Sch.of [(2, true), (7, true), (10, true), (15, true), (16, false), (18, true)]))))) kk kk (fun _ d _ _ _ h => by cases d <;> exact h) kk (fun w69 e70 s71 => ?_)
   refine Fq (.pointer (some ⟨b2, 0, none⟩)) (r_field0 rfl ek kk) ?_
   refine Fl (.int .i64 m) (sgS (blk_cell (j := 0) x6 kk) onn) ?_
   refine Fq (.pointer (some ⟨b2, 1, none⟩)) (r_field (k := 1) rfl ek kk) ?_
   refine Fl (.slice A n c) (sgS (blk_cell (j := 1) x6 kk) onn) ?_
   refine Fv (.int .i64 (k2 : Int)) ?_
   refine Fq (.slice A k2 c) (r_sliceTo (A := A) (n := n) (c := c) (k := k2) (size := 4) rfl ek ek kk (by have := (hf).le; omega)) ?_
   refine Fq (.agg #[.int .i64 x.id, .int .i64 x.fr, .int .i64 x.to, .int .i64 x.sz]) (r_load4 rfl ek kk kk (sgS (blk_cell (j := 0) x13 kk) onn) (sgS (blk_cell (j := 1) x13 kk) onn) (sgS (blk_cell (j := 2) x13 kk) onn) (sgS (blk_cell (j := 3) x13 kk) onn)) ?_
   refine Fq (.pointer (some ⟨b2, 1, none⟩)) (r_field (k := 1) rfl ek kk) ?_
   refine Fl (.slice A n c) (sgS (blk_cell (j := 1) x6 kk) onn) ?_
   refine Fv (.int .i64 (k2 : Int)) ?_
   refine Fq (.slice (sFrom A c k2 4) (n - k2) (c - k2)) (r_sliceFrom (A := A) (n := n) (c := c) (k := k2) (size := 4) rfl ek ek kk (by omega)) ?_
   refine W.sbr3 ?_ ?_ ?_
   ·refine W.sn (fun b => .slice (some ⟨b, 0, none⟩) 0 0) #[] 38 s71 rfl kk rfl (fun _ => by kernel_rfl) (fun b72 w73 hb74 k75 x76 s77 => ?_)
    apply F.nx
    have lo78 : w.heap.size ≤ b72 := Nl ((Sb c45 s71 nkk)).size (Nat.le_of_eq hb74)
    have ne79 : b2 ≠ b72 := Nat.ne_of_lt (Nat.lt_of_lt_of_eq (Nat.lt_of_lt_of_le (blk_lt x6) (s71).size) hb74)
    have ne80 : b9 ≠ b72 := Nat.ne_of_lt (Nat.lt_of_lt_of_eq (Nat.lt_of_lt_of_le (blk_lt x13) (s71).size) hb74)
    have ne81 : b17 ≠ b72 := Nat.ne_of_lt (Nat.lt_of_lt_of_eq (Nat.lt_of_lt_of_le (blk_lt x21) (s71).size) hb74)
    refine W.sbr3 ?_ ?_ ?_
    ·have ho82 := own_empty (base := w.heap.size) (size := 4) x76 lo78
     replace ho82 : World.ownsRow _ _ _ _ _ _ (pipesV []) := ho82
     have nb83 : Nb b2 (.slice (some ⟨b72, 0, none⟩) 0 0) := nb_new ne79
     have nb84 : Nb b9 (.slice (some ⟨b72, 0, none⟩) 0 0) := nb_new ne80
     have nb85 : Nb b17 (.slice (some ⟨b72, 0, none⟩) 0 0) := nb_new ne81
     replace ho82 : World.ownsRow _ _ _ _ _ _ (pipesV []) := ho82
     refine W.sapR (e := 38) (size := 4) (base := w.heap.size) (v := .slice (some ⟨b72, 0, none⟩) 0 0) (A := A) (m := k2) (c := c) s77 rfl rfl rfl rfl kk kk kk ho82 (Rd.toP (Rk ha (Sb c45 s77 nkk)) (by omega)) (Fm.to hf (by have := (hf).le; omega)) (pipes_one _) (by omega) (by have := ((Sb c45 s77 nkk)).size; omega) (.inr (fun kq e => by have := (s71).size; have := hb74; have e' := Option.some.inj e; simp at e'; omega)) (fun A86 cap87 w88 ho89 hg90 hat91 s92 => ?_)
     apply F.nx
     have nb93 : Nb b2 (.slice A86 (0 + k2) cap87) := nb_app2 nb83 (Nat.lt_of_lt_of_le (blk_lt x6) (s77).size) hat91
     have nb94 : Nb b9 (.slice A86 (0 + k2) cap87) := nb_app2 nb84 (Nat.lt_of_lt_of_le (blk_lt x13) (s77).size) hat91
     have nb95 : Nb b17 (.slice A86 (0 + k2) cap87) := nb_app2 nb85 (Nat.lt_of_lt_of_le (blk_lt x21) (s77).size) hat91
     have ho89 := own_joinP ho89
     have fr96 : ∀ kq, (.slice A86 (0 + k2) cap87 : Value).ownBlock = some kq → wlj1.heap.size ≤ kq := fun kq e => by
       have hs := (s77).size
       rcases hat91 with h | h
       · exact (show ∀ kq, Value.ownBlock _ = some kq → wlj1.heap.size ≤ kq from (fun kq e => by have := (s71).size; have := hb74; have e' := Option.some.inj e; simp at e'; omega)) kq (h.symm.trans e)
       · have := Option.some.inj (h.symm.trans e); omega
     refine W.sbr ?_ ?_
     ·refine W.sn (fun b => .slice (some ⟨b, 0, none⟩) 1 1) #[.int .i64 x.id, .int .i64 x.fr, .int .i64 x.to, .int .i64 x.sz] 38 s92 rfl kk rfl (fun _ => by kernel_rfl) (fun b97 w98 hb99 k100 x101 s102 => ?_)
      apply F.nx
      have lo103 : w.heap.size ≤ b97 := Nl ((Sb c45 s92 nkk)).size (Nat.le_of_eq hb99)
      have nb107 : Nb b97 (.slice A86 (0 + k2) cap87) := nb_hi ho89 (Nat.le_of_eq hb99)
      have ho108 := own_kept ho89 k100
      refine W.sbr ?_ ?_
      ·refine W.sap (e := 38) (size := 4) (base := w.heap.size) (m := 1) (v := .slice A86 (0 + k2) cap87) (c := 1) s102 rfl rfl rfl rfl kk kk kk ho108 x101 kk kk (by omega) (by omega) (by have := ((Sb c45 s102 nkk)).size; omega) (.inr fr96) (fun g109 cap110 w111 ho112 hg113 hat114 hlt115 s116 => ?_)
       apply F.nx
       have nb117 : Nb b2 (.slice (some ⟨g109, 0, none⟩) ((0 + k2) + 1) cap110) := nb_app nb93 (Nat.lt_of_lt_of_le (blk_lt x6) (s102).size) hat114
       have nb118 : Nb b9 (.slice (some ⟨g109, 0, none⟩) ((0 + k2) + 1) cap110) := nb_app nb94 (Nat.lt_of_lt_of_le (blk_lt x13) (s102).size) hat114
       have nb119 : Nb b17 (.slice (some ⟨g109, 0, none⟩) ((0 + k2) + 1) cap110) := nb_app nb95 (Nat.lt_of_lt_of_le (blk_lt x21) (s102).size) hat114
       have nb120 : Nb b97 (.slice (some ⟨g109, 0, none⟩) ((0 + k2) + 1) cap110) := nb_app nb107 (blk_lt x101) hat114
       have x101 := (hg113.block _ (blk_lt x101) nb107).trans x101
       have ho112 := own_snocP (x := x) ho112
       have fr121 : ∀ kq, (.slice (some ⟨g109, 0, none⟩) ((0 + k2) + 1) cap110 : Value).ownBlock = some kq → wlj1.heap.size ≤ kq := fun kq e => by
         have hs := (s102).size
         have e' : g109 = kq := by simpa [Value.ownBlock] using e
         rcases hat114 with h | h
         · exact (show ∀ kq, Value.ownBlock _ = some kq → wlj1.heap.size ≤ kq from fr96) kq (by rw [← e']; exact h)
         · omega
       refine W.sbr ?_ ?_
       ·refine W.sapR (e := 38) (size := 4) (base := w.heap.size) (v := .slice (some ⟨g109, 0, none⟩) ((0 + k2) + 1) cap110) (A := (sFrom A c k2 4)) (m := (n - k2)) (c := (c - k2)) s116 rfl rfl rfl rfl kk kk kk ho112 (Rd.fromP (Rk ha (Sb c45 s116 nkk)) (by omega) (hf).le) (Fm.from (size := 4) hf (by omega)) (pipes_one _) (by omega) (by have := ((Sb c45 s116 nkk)).size; omega) (.inr fr121) (fun A122 cap123 w124 ho125 hg126 hat127 s128 => ?_)
        apply F.nx
        have nb129 : Nb b2 (.slice A122 (((0 + k2) + 1) + (n - k2)) cap123) := nb_app2 nb117 (Nat.lt_of_lt_of_le (blk_lt x6) (s116).size) hat127
        have nb130 : Nb b9 (.slice A122 (((0 + k2) + 1) + (n - k2)) cap123) := nb_app2 nb118 (Nat.lt_of_lt_of_le (blk_lt x13) (s116).size) hat127
        have nb131 : Nb b17 (.slice A122 (((0 + k2) + 1) + (n - k2)) cap123) := nb_app2 nb119 (Nat.lt_of_lt_of_le (blk_lt x21) (s116).size) hat127
        have x101 := (hg126.block _ (blk_lt x101) nb120).trans x101
        have ho125 := own_joinP ho125
        have fr133 : ∀ kq, (.slice A122 (((0 + k2) + 1) + (n - k2)) cap123 : Value).ownBlock = some kq → wlj1.heap.size ≤ kq := fun kq e => by
          have hs := (s116).size
          rcases hat127 with h | h
          · exact (show ∀ kq, Value.ownBlock _ = some kq → wlj1.heap.size ≤ kq from fr121) kq (h.symm.trans e)
          · have := Option.some.inj (h.symm.trans e); omega
        refine Fq (.agg #[.int .i64 m, .slice A122 (((0 + k2) + 1) + (n - k2)) cap123]) (r_build rfl (vs := [(0, .int .i64 m), (1, .slice A122 (((0 + k2) + 1) + (n - k2)) cap123)]) kk kk) ?_
        refine W.sn (fun b => .pointer (some ⟨b, 0, none⟩)) #[.int .i64 0, .slice none 0 0] 24 s128 rfl kk rfl (fun _ => by kernel_rfl) (fun b134 w135 hb136 k137 x138 s139 => ?_)
        apply F.nx
        have lo140 : w.heap.size ≤ b134 := Nl ((Sb c45 s128 nkk)).size (Nat.le_of_eq hb136)
        have ne141 : b2 ≠ b134 := Nat.ne_of_lt (Nat.lt_of_lt_of_eq (Nat.lt_of_lt_of_le (blk_lt x6) (s128).size) hb136)
        have ne142 : b9 ≠ b134 := Nat.ne_of_lt (Nat.lt_of_lt_of_eq (Nat.lt_of_lt_of_le (blk_lt x13) (s128).size) hb136)
        have ne143 : b17 ≠ b134 := Nat.ne_of_lt (Nat.lt_of_lt_of_eq (Nat.lt_of_lt_of_le (blk_lt x21) (s128).size) hb136)
        have ne144 : b97 ≠ b134 := Nat.ne_of_lt (Nat.lt_of_lt_of_eq (blk_lt x101) hb136)
        have nb145 : Nb b134 (.slice A122 (((0 + k2) + 1) + (n - k2)) cap123) := nb_hi ho125 (Nat.le_of_eq hb136)
        have x101 := (k137.block _ (blk_lt x101)).trans x101
        have ho146 := own_kept ho125 k137
        refine W.ss (v := .agg #[.int .i64 m, .slice A122 (((0 + k2) + 1) + (n - k2)) cap123]) (j := 0) (news := [.int .i64 m, .slice A122 (((0 + k2) + 1) + (n - k2)) cap123]) (cs' := #[.int .i64 m, .slice A122 (((0 + k2) + 1) + (n - k2)) cap123]) s139 rfl kk rfl rfl kk kk x138 kk kk (by simp) kk kk (.inr (Nl (s128).size (Nat.le_of_eq hb136))) (fun w147 g148 x149 s150 => ?_)
        have x101 := (g148.block _ (blk_lt x101) (fun e9 => ne144 (Option.some.inj e9))).trans x101
        have ho151 := own_grown ho146 g148 (fun j e1 e2 => by cases e2; exact nb145 e1.symm)
        apply F.es
        have x6 := Sk s150 x6 onn
        have x13 := Sk s150 x13 onn
        have x21 := Sk s150 x21 onn
        have c152 := (Sb c45 s150 nkk)
        exact h10 0 _ _ ⟨A122, (((0 + k2) + 1) + (n - k2)), cap123, b134, (fun iU9 => lk [(2, .pointer (some ⟨b2, 0, none⟩)), (3, .pointer (some ⟨b9, 0, none⟩)), (4, .pointer (some ⟨b17, 0, none⟩)), (5, .bool false), (6, .int .i64 (k2 : Int)), (7, .pointer (some ⟨b134, 0, none⟩)), (37, .pointer (some ⟨b2, 0, none⟩)), (38, .int .i64 m), (39, .slice (some ⟨b72, 0, none⟩) 0 0), (40, .pointer (some ⟨b2, 1, none⟩)), (41, .slice A n c), (42, .int .i64 (k2 : Int)), (43, .slice A k2 c), (44, .slice A86 (0 + k2) cap87), (45, .agg #[.int .i64 x.id, .int .i64 x.fr, .int .i64 x.to, .int .i64 x.sz]), (46, .slice (some ⟨b97, 0, none⟩) 1 1), (47, .slice (some ⟨g109, 0, none⟩) ((0 + k2) + 1) cap110), (48, .pointer (some ⟨b2, 1, none⟩)), (49, .slice A n c), (50, .int .i64 (k2 : Int)), (51, .slice (sFrom A c k2 4) (n - k2) (c - k2)), (52, .slice A122 (((0 + k2) + 1) + (n - k2)) cap123), (53, .agg #[.int .i64 m, .slice A122 (((0 + k2) + 1) + (n - k2)) cap123])] iU9 (Uj1 iU9)), kk, x6, x13, x21, x149, lo140, ho151, by omega, nb129, nb130, nb131, nb145, ne141, ne142, ne143, c152⟩
       refine W.sn (fun b => .pointer (some ⟨b, 0, none⟩)) #[.int .i64 0, .slice none 0 0] 24 s116 rfl kk rfl (fun _ => by kernel_rfl) (fun b153 w154 hb155 k156 x157 s158 => ?_)
       apply F.nx
       have lo159 : w.heap.size ≤ b153 := Nl ((Sb c45 s116 nkk)).size (Nat.le_of_eq hb155)
       have ne160 : b2 ≠ b153 := Nat.ne_of_lt (Nat.lt_of_lt_of_eq (Nat.lt_of_lt_of_le (blk_lt x6) (s116).size) hb155)
       have ne161 : b9 ≠ b153 := Nat.ne_of_lt (Nat.lt_of_lt_of_eq (Nat.lt_of_lt_of_le (blk_lt x13) (s116).size) hb155)
       have ne162 : b17 ≠ b153 := Nat.ne_of_lt (Nat.lt_of_lt_of_eq (Nat.lt_of_lt_of_le (blk_lt x21) (s116).size) hb155)
       have ne163 : b97 ≠ b153 := Nat.ne_of_lt (Nat.lt_of_lt_of_eq (blk_lt x101) hb155)
       have nb164 : Nb b153 (.slice (some ⟨g109, 0, none⟩) ((0 + k2) + 1) cap110) := nb_hi ho112 (Nat.le_of_eq hb155)
       have x101 := (k156.block _ (blk_lt x101)).trans x101
       have ho165 := own_kept ho112 k156
       refine W.sapR (e := 38) (size := 4) (base := w.heap.size) (v := .slice (some ⟨g109, 0, none⟩) ((0 + k2) + 1) cap110) (A := (sFrom A c k2 4)) (m := (n - k2)) (c := (c - k2)) s158 rfl rfl rfl rfl kk kk kk ho165 (Rd.fromP (Rk ha (Sb c45 s158 nkk)) (by omega) (hf).le) (Fm.from (size := 4) hf (by omega)) (pipes_one _) (by omega) (by have := ((Sb c45 s158 nkk)).size; omega) (.inr fr121) (fun A166 cap167 w168 ho169 hg170 hat171 s172 => ?_)
       apply F.nx
       have nb173 : Nb b2 (.slice A166 (((0 + k2) + 1) + (n - k2)) cap167) := nb_app2 nb117 (Nat.lt_of_lt_of_le (blk_lt x6) (s158).size) hat171
       have nb174 : Nb b9 (.slice A166 (((0 + k2) + 1) + (n - k2)) cap167) := nb_app2 nb118 (Nat.lt_of_lt_of_le (blk_lt x13) (s158).size) hat171
       have nb175 : Nb b17 (.slice A166 (((0 + k2) + 1) + (n - k2)) cap167) := nb_app2 nb119 (Nat.lt_of_lt_of_le (blk_lt x21) (s158).size) hat171
       have x101 := (hg170.block _ (blk_lt x101) nb120).trans x101
       have nb177 : Nb b153 (.slice A166 (((0 + k2) + 1) + (n - k2)) cap167) := nb_app2 nb164 (blk_lt x157) hat171
       have x157 := (hg170.block _ (blk_lt x157) nb164).trans x157
       have ho169 := own_joinP ho169
       have fr178 : ∀ kq, (.slice A166 (((0 + k2) + 1) + (n - k2)) cap167 : Value).ownBlock = some kq → wlj1.heap.size ≤ kq := fun kq e => by
         have hs := (s158).size
         rcases hat171 with h | h
         · exact (show ∀ kq, Value.ownBlock _ = some kq → wlj1.heap.size ≤ kq from fr121) kq (h.symm.trans e)
         · have := Option.some.inj (h.symm.trans e); omega
       refine Fq (.agg #[.int .i64 m, .slice A166 (((0 + k2) + 1) + (n - k2)) cap167]) (r_build rfl (vs := [(0, .int .i64 m), (1, .slice A166 (((0 + k2) + 1) + (n - k2)) cap167)]) kk kk) ?_
       refine W.ss (v := .agg #[.int .i64 m, .slice A166 (((0 + k2) + 1) + (n - k2)) cap167]) (j := 0) (news := [.int .i64 m, .slice A166 (((0 + k2) + 1) + (n - k2)) cap167]) (cs' := #[.int .i64 m, .slice A166 (((0 + k2) + 1) + (n - k2)) cap167]) s172 rfl kk rfl rfl kk kk x157 kk kk (by simp) kk kk (.inr (Nl (s116).size (Nat.le_of_eq hb155))) (fun w179 g180 x181 s182 => ?_)
       have x101 := (g180.block _ (blk_lt x101) (fun e9 => ne163 (Option.some.inj e9))).trans x101
       have ho183 := own_grown ho169 g180 (fun j e1 e2 => by cases e2; exact nb177 e1.symm)
       apply F.es
       have x6 := Sk s182 x6 onn
       have x13 := Sk s182 x13 onn
       have x21 := Sk s182 x21 onn
       have c184 := (Sb c45 s182 nkk)
       exact h10 0 _ _ ⟨A166, (((0 + k2) + 1) + (n - k2)), cap167, b153, (fun iU9 => lk [(2, .pointer (some ⟨b2, 0, none⟩)), (3, .pointer (some ⟨b9, 0, none⟩)), (4, .pointer (some ⟨b17, 0, none⟩)), (5, .bool false), (6, .int .i64 (k2 : Int)), (7, .pointer (some ⟨b153, 0, none⟩)), (37, .pointer (some ⟨b2, 0, none⟩)), (38, .int .i64 m), (39, .slice (some ⟨b72, 0, none⟩) 0 0), (40, .pointer (some ⟨b2, 1, none⟩)), (41, .slice A n c), (42, .int .i64 (k2 : Int)), (43, .slice A k2 c), (44, .slice A86 (0 + k2) cap87), (45, .agg #[.int .i64 x.id, .int .i64 x.fr, .int .i64 x.to, .int .i64 x.sz]), (46, .slice (some ⟨b97, 0, none⟩) 1 1), (47, .slice (some ⟨g109, 0, none⟩) ((0 + k2) + 1) cap110), (48, .pointer (some ⟨b2, 1, none⟩)), (49, .slice A n c), (50, .int .i64 (k2 : Int)), (51, .slice (sFrom A c k2 4) (n - k2) (c - k2)), (52, .slice A166 (((0 + k2) + 1) + (n - k2)) cap167), (53, .agg #[.int .i64 m, .slice A166 (((0 + k2) + 1) + (n - k2)) cap167])] iU9 (Uj1 iU9)), kk, x6, x13, x21, x181, lo159, ho183, by omega, nb173, nb174, nb175, nb177, ne160, ne161, ne162, c184⟩
      refine W.sn (fun b => .pointer (some ⟨b, 0, none⟩)) #[.int .i64 0, .slice none 0 0] 24 s102 rfl kk rfl (fun _ => by kernel_rfl) (fun b185 w186 hb187 k188 x189 s190 => ?_)
      apply F.nx
      have lo191 : w.heap.size ≤ b185 := Nl ((Sb c45 s102 nkk)).size (Nat.le_of_eq hb187)
      have ne192 : b2 ≠ b185 := Nat.ne_of_lt (Nat.lt_of_lt_of_eq (Nat.lt_of_lt_of_le (blk_lt x6) (s102).size) hb187)
      have ne193 : b9 ≠ b185 := Nat.ne_of_lt (Nat.lt_of_lt_of_eq (Nat.lt_of_lt_of_le (blk_lt x13) (s102).size) hb187)
      have ne194 : b17 ≠ b185 := Nat.ne_of_lt (Nat.lt_of_lt_of_eq (Nat.lt_of_lt_of_le (blk_lt x21) (s102).size) hb187)
      have nb196 : Nb b185 (.slice A86 (0 + k2) cap87) := nb_hi ho108 (Nat.le_of_eq hb187)
      have x101 := (k188.block _ (blk_lt x101)).trans x101
      have ho197 := own_kept ho108 k188
      refine W.sap (e := 38) (size := 4) (base := w.heap.size) (m := 1) (v := .slice A86 (0 + k2) cap87) (c := 1) s190 rfl rfl rfl rfl kk kk kk ho197 x101 kk kk (by omega) (by omega) (by have := ((Sb c45 s190 nkk)).size; omega) (.inr fr96) (fun g198 cap199 w200 ho201 hg202 hat203 hlt204 s205 => ?_)
      apply F.nx
      have nb206 : Nb b2 (.slice (some ⟨g198, 0, none⟩) ((0 + k2) + 1) cap199) := nb_app nb93 (Nat.lt_of_lt_of_le (blk_lt x6) (s190).size) hat203
      have nb207 : Nb b9 (.slice (some ⟨g198, 0, none⟩) ((0 + k2) + 1) cap199) := nb_app nb94 (Nat.lt_of_lt_of_le (blk_lt x13) (s190).size) hat203
      have nb208 : Nb b17 (.slice (some ⟨g198, 0, none⟩) ((0 + k2) + 1) cap199) := nb_app nb95 (Nat.lt_of_lt_of_le (blk_lt x21) (s190).size) hat203
      have nb210 : Nb b185 (.slice (some ⟨g198, 0, none⟩) ((0 + k2) + 1) cap199) := nb_app nb196 (blk_lt x189) hat203
      have x189 := (hg202.block _ (blk_lt x189) nb196).trans x189
      have ho201 := own_snocP (x := x) ho201
      have fr211 : ∀ kq, (.slice (some ⟨g198, 0, none⟩) ((0 + k2) + 1) cap199 : Value).ownBlock = some kq → wlj1.heap.size ≤ kq := fun kq e => by
        have hs := (s190).size
        have e' : g198 = kq := by simpa [Value.ownBlock] using e
        rcases hat203 with h | h
        · exact (show ∀ kq, Value.ownBlock _ = some kq → wlj1.heap.size ≤ kq from fr96) kq (by rw [← e']; exact h)
        · omega
      refine W.sapR (e := 38) (size := 4) (base := w.heap.size) (v := .slice (some ⟨g198, 0, none⟩) ((0 + k2) + 1) cap199) (A := (sFrom A c k2 4)) (m := (n - k2)) (c := (c - k2)) s205 rfl rfl rfl rfl kk kk kk ho201 (Rd.fromP (Rk ha (Sb c45 s205 nkk)) (by omega) (hf).le) (Fm.from (size := 4) hf (by omega)) (pipes_one _) (by omega) (by have := ((Sb c45 s205 nkk)).size; omega) (.inr fr211) (fun A212 cap213 w214 ho215 hg216 hat217 s218 => ?_)
      apply F.nx
      have nb219 : Nb b2 (.slice A212 (((0 + k2) + 1) + (n - k2)) cap213) := nb_app2 nb206 (Nat.lt_of_lt_of_le (blk_lt x6) (s205).size) hat217
      have nb220 : Nb b9 (.slice A212 (((0 + k2) + 1) + (n - k2)) cap213) := nb_app2 nb207 (Nat.lt_of_lt_of_le (blk_lt x13) (s205).size) hat217
      have nb221 : Nb b17 (.slice A212 (((0 + k2) + 1) + (n - k2)) cap213) := nb_app2 nb208 (Nat.lt_of_lt_of_le (blk_lt x21) (s205).size) hat217
      have nb223 : Nb b185 (.slice A212 (((0 + k2) + 1) + (n - k2)) cap213) := nb_app2 nb210 (blk_lt x189) hat217
      have x189 := (hg216.block _ (blk_lt x189) nb210).trans x189
      have ho215 := own_joinP ho215
      have fr224 : ∀ kq, (.slice A212 (((0 + k2) + 1) + (n - k2)) cap213 : Value).ownBlock = some kq → wlj1.heap.size ≤ kq := fun kq e => by
        have hs := (s205).size
        rcases hat217 with h | h
        · exact (show ∀ kq, Value.ownBlock _ = some kq → wlj1.heap.size ≤ kq from fr211) kq (h.symm.trans e)
        · have := Option.some.inj (h.symm.trans e); omega
      refine Fq (.agg #[.int .i64 m, .slice A212 (((0 + k2) + 1) + (n - k2)) cap213]) (r_build rfl (vs := [(0, .int .i64 m), (1, .slice A212 (((0 + k2) + 1) + (n - k2)) cap213)]) kk kk) ?_
      refine W.ss (v := .agg #[.int .i64 m, .slice A212 (((0 + k2) + 1) + (n - k2)) cap213]) (j := 0) (news := [.int .i64 m, .slice A212 (((0 + k2) + 1) + (n - k2)) cap213]) (cs' := #[.int .i64 m, .slice A212 (((0 + k2) + 1) + (n - k2)) cap213]) s218 rfl kk rfl rfl kk kk x189 kk kk (by simp) kk kk (.inr (Nl (s102).size (Nat.le_of_eq hb187))) (fun w225 g226 x227 s228 => ?_)
      have ho229 := own_grown ho215 g226 (fun j e1 e2 => by cases e2; exact nb223 e1.symm)
      apply F.es
      have x6 := Sk s228 x6 onn
      have x13 := Sk s228 x13 onn
      have x21 := Sk s228 x21 onn
      have c230 := (Sb c45 s228 nkk)
      exact h10 0 _ _ ⟨A212, (((0 + k2) + 1) + (n - k2)), cap213, b185, (fun iU9 => lk [(2, .pointer (some ⟨b2, 0, none⟩)), (3, .pointer (some ⟨b9, 0, none⟩)), (4, .pointer (some ⟨b17, 0, none⟩)), (5, .bool false), (6, .int .i64 (k2 : Int)), (7, .pointer (some ⟨b185, 0, none⟩)), (37, .pointer (some ⟨b2, 0, none⟩)), (38, .int .i64 m), (39, .slice (some ⟨b72, 0, none⟩) 0 0), (40, .pointer (some ⟨b2, 1, none⟩)), (41, .slice A n c), (42, .int .i64 (k2 : Int)), (43, .slice A k2 c), (44, .slice A86 (0 + k2) cap87), (45, .agg #[.int .i64 x.id, .int .i64 x.fr, .int .i64 x.to, .int .i64 x.sz]), (46, .slice (some ⟨b97, 0, none⟩) 1 1), (47, .slice (some ⟨g198, 0, none⟩) ((0 + k2) + 1) cap199), (48, .pointer (some ⟨b2, 1, none⟩)), (49, .slice A n c), (50, .int .i64 (k2 : Int)), (51, .slice (sFrom A c k2 4) (n - k2) (c - k2)), (52, .slice A212 (((0 + k2) + 1) + (n - k2)) cap213), (53, .agg #[.int .i64 m, .slice A212 (((0 + k2) + 1) + (n - k2)) cap213])] iU9 (Uj1 iU9)), kk, x6, x13, x21, x227, lo191, ho229, by omega, nb219, nb220, nb221, nb223, ne192, ne193, ne194, c230⟩
     refine W.sn (fun b => .pointer (some ⟨b, 0, none⟩)) #[.int .i64 0, .slice none 0 0] 24 s92 rfl kk rfl (fun _ => by kernel_rfl) (fun b231 w232 hb233 k234 x235 s236 => ?_)
     apply F.nx
     have lo237 : w.heap.size ≤ b231 := Nl ((Sb c45 s92 nkk)).size (Nat.le_of_eq hb233)
     have ne238 : b2 ≠ b231 := Nat.ne_of_lt (Nat.lt_of_lt_of_eq (Nat.lt_of_lt_of_le (blk_lt x6) (s92).size) hb233)
     have ne239 : b9 ≠ b231 := Nat.ne_of_lt (Nat.lt_of_lt_of_eq (Nat.lt_of_lt_of_le (blk_lt x13) (s92).size) hb233)
     have ne240 : b17 ≠ b231 := Nat.ne_of_lt (Nat.lt_of_lt_of_eq (Nat.lt_of_lt_of_le (blk_lt x21) (s92).size) hb233)
     have nb241 : Nb b231 (.slice A86 (0 + k2) cap87) := nb_hi ho89 (Nat.le_of_eq hb233)
     have ho242 := own_kept ho89 k234
     refine W.sn (fun b => .slice (some ⟨b, 0, none⟩) 1 1) #[.int .i64 x.id, .int .i64 x.fr, .int .i64 x.to, .int .i64 x.sz] 38 s236 rfl kk rfl (fun _ => by kernel_rfl) (fun b243 w244 hb245 k246 x247 s248 => ?_)
     apply F.nx
     have lo249 : w.heap.size ≤ b243 := Nl ((Sb c45 s236 nkk)).size (Nat.le_of_eq hb245)
     have x235 := (k246.block _ (blk_lt x235)).trans x235
     have ho255 := own_kept ho242 k246
     refine W.sap (e := 38) (size := 4) (base := w.heap.size) (m := 1) (v := .slice A86 (0 + k2) cap87) (c := 1) s248 rfl rfl rfl rfl kk kk kk ho255 x247 kk kk (by omega) (by omega) (by have := ((Sb c45 s248 nkk)).size; omega) (.inr fr96) (fun g256 cap257 w258 ho259 hg260 hat261 hlt262 s263 => ?_)
     apply F.nx
     have nb264 : Nb b2 (.slice (some ⟨g256, 0, none⟩) ((0 + k2) + 1) cap257) := nb_app nb93 (Nat.lt_of_lt_of_le (blk_lt x6) (s248).size) hat261
     have nb265 : Nb b9 (.slice (some ⟨g256, 0, none⟩) ((0 + k2) + 1) cap257) := nb_app nb94 (Nat.lt_of_lt_of_le (blk_lt x13) (s248).size) hat261
     have nb266 : Nb b17 (.slice (some ⟨g256, 0, none⟩) ((0 + k2) + 1) cap257) := nb_app nb95 (Nat.lt_of_lt_of_le (blk_lt x21) (s248).size) hat261
     have nb267 : Nb b231 (.slice (some ⟨g256, 0, none⟩) ((0 + k2) + 1) cap257) := nb_app nb241 (blk_lt x235) hat261
     have x235 := (hg260.block _ (blk_lt x235) nb241).trans x235
     have ho259 := own_snocP (x := x) ho259
     have fr269 : ∀ kq, (.slice (some ⟨g256, 0, none⟩) ((0 + k2) + 1) cap257 : Value).ownBlock = some kq → wlj1.heap.size ≤ kq := fun kq e => by
       have hs := (s248).size
       have e' : g256 = kq := by simpa [Value.ownBlock] using e
       rcases hat261 with h | h
       · exact (show ∀ kq, Value.ownBlock _ = some kq → wlj1.heap.size ≤ kq from fr96) kq (by rw [← e']; exact h)
       · omega
     refine W.sapR (e := 38) (size := 4) (base := w.heap.size) (v := .slice (some ⟨g256, 0, none⟩) ((0 + k2) + 1) cap257) (A := (sFrom A c k2 4)) (m := (n - k2)) (c := (c - k2)) s263 rfl rfl rfl rfl kk kk kk ho259 (Rd.fromP (Rk ha (Sb c45 s263 nkk)) (by omega) (hf).le) (Fm.from (size := 4) hf (by omega)) (pipes_one _) (by omega) (by have := ((Sb c45 s263 nkk)).size; omega) (.inr fr269) (fun A270 cap271 w272 ho273 hg274 hat275 s276 => ?_)
     apply F.nx
     have nb277 : Nb b2 (.slice A270 (((0 + k2) + 1) + (n - k2)) cap271) := nb_app2 nb264 (Nat.lt_of_lt_of_le (blk_lt x6) (s263).size) hat275
     have nb278 : Nb b9 (.slice A270 (((0 + k2) + 1) + (n - k2)) cap271) := nb_app2 nb265 (Nat.lt_of_lt_of_le (blk_lt x13) (s263).size) hat275
     have nb279 : Nb b17 (.slice A270 (((0 + k2) + 1) + (n - k2)) cap271) := nb_app2 nb266 (Nat.lt_of_lt_of_le (blk_lt x21) (s263).size) hat275
     have nb280 : Nb b231 (.slice A270 (((0 + k2) + 1) + (n - k2)) cap271) := nb_app2 nb267 (blk_lt x235) hat275
     have x235 := (hg274.block _ (blk_lt x235) nb267).trans x235
     have ho273 := own_joinP ho273
     have fr282 : ∀ kq, (.slice A270 (((0 + k2) + 1) + (n - k2)) cap271 : Value).ownBlock = some kq → wlj1.heap.size ≤ kq := fun kq e => by
       have hs := (s263).size
       rcases hat275 with h | h
       · exact (show ∀ kq, Value.ownBlock _ = some kq → wlj1.heap.size ≤ kq from fr269) kq (h.symm.trans e)
       · have := Option.some.inj (h.symm.trans e); omega
     refine Fq (.agg #[.int .i64 m, .slice A270 (((0 + k2) + 1) + (n - k2)) cap271]) (r_build rfl (vs := [(0, .int .i64 m), (1, .slice A270 (((0 + k2) + 1) + (n - k2)) cap271)]) kk kk) ?_
     refine W.ss (v := .agg #[.int .i64 m, .slice A270 (((0 + k2) + 1) + (n - k2)) cap271]) (j := 0) (news := [.int .i64 m, .slice A270 (((0 + k2) + 1) + (n - k2)) cap271]) (cs' := #[.int .i64 m, .slice A270 (((0 + k2) + 1) + (n - k2)) cap271]) s276 rfl kk rfl rfl kk kk x235 kk kk (by simp) kk kk (.inr (Nl (s92).size (Nat.le_of_eq hb233))) (fun w283 g284 x285 s286 => ?_)
     have ho287 := own_grown ho273 g284 (fun j e1 e2 => by cases e2; exact nb280 e1.symm)
     apply F.es
     have x6 := Sk s286 x6 onn
     have x13 := Sk s286 x13 onn
     have x21 := Sk s286 x21 onn
     have c288 := (Sb c45 s286 nkk)
     exact h10 0 _ _ ⟨A270, (((0 + k2) + 1) + (n - k2)), cap271, b231, (fun iU9 => lk [(2, .pointer (some ⟨b2, 0, none⟩)), (3, .pointer (some ⟨b9, 0, none⟩)), (4, .pointer (some ⟨b17, 0, none⟩)), (5, .bool false), (6, .int .i64 (k2 : Int)), (7, .pointer (some ⟨b231, 0, none⟩)), (37, .pointer (some ⟨b2, 0, none⟩)), (38, .int .i64 m), (39, .slice (some ⟨b72, 0, none⟩) 0 0), (40, .pointer (some ⟨b2, 1, none⟩)), (41, .slice A n c), (42, .int .i64 (k2 : Int)), (43, .slice A k2 c), (44, .slice A86 (0 + k2) cap87), (45, .agg #[.int .i64 x.id, .int .i64 x.fr, .int .i64 x.to, .int .i64 x.sz]), (46, .slice (some ⟨b243, 0, none⟩) 1 1), (47, .slice (some ⟨g256, 0, none⟩) ((0 + k2) + 1) cap257), (48, .pointer (some ⟨b2, 1, none⟩)), (49, .slice A n c), (50, .int .i64 (k2 : Int)), (51, .slice (sFrom A c k2 4) (n - k2) (c - k2)), (52, .slice A270 (((0 + k2) + 1) + (n - k2)) cap271), (53, .agg #[.int .i64 m, .slice A270 (((0 + k2) + 1) + (n - k2)) cap271])] iU9 (Uj1 iU9)), kk, x6, x13, x21, x285, lo237, ho287, by omega, nb277, nb278, nb279, nb280, ne238, ne239, ne240, c288⟩
    ·refine W.sn (fun b => .slice (some ⟨b, 0, none⟩) 1 1) #[.int .i64 x.id, .int .i64 x.fr, .int .i64 x.to, .int .i64 x.sz] 38 s77 rfl kk rfl (fun _ => by kernel_rfl) (fun b289 w290 hb291 k292 x293 s294 => ?_)
     apply F.nx
     have lo295 : w.heap.size ≤ b289 := Nl ((Sb c45 s77 nkk)).size (Nat.le_of_eq hb291)
     have ne299 : b72 ≠ b289 := Nat.ne_of_lt (Nat.lt_of_lt_of_eq (blk_lt x76) hb291)
     have x76 := (k292.block _ (blk_lt x76)).trans x76
     refine W.sbr ?_ ?_
     ·have ho300 := own_empty (base := w.heap.size) (size := 4) x76 lo78
      replace ho300 : World.ownsRow _ _ _ _ _ _ (pipesV []) := ho300
      have nb301 : Nb b2 (.slice (some ⟨b72, 0, none⟩) 0 0) := nb_new ne79
      have nb302 : Nb b9 (.slice (some ⟨b72, 0, none⟩) 0 0) := nb_new ne80
      have nb303 : Nb b17 (.slice (some ⟨b72, 0, none⟩) 0 0) := nb_new ne81
      have nb304 : Nb b289 (.slice (some ⟨b72, 0, none⟩) 0 0) := nb_new (Ne.symm ne299)
      replace ho300 : World.ownsRow _ _ _ _ _ _ (pipesV []) := ho300
      refine W.sapR (e := 38) (size := 4) (base := w.heap.size) (v := .slice (some ⟨b72, 0, none⟩) 0 0) (A := A) (m := k2) (c := c) s294 rfl rfl rfl rfl kk kk kk ho300 (Rd.toP (Rk ha (Sb c45 s294 nkk)) (by omega)) (Fm.to hf (by have := (hf).le; omega)) (pipes_one _) (by omega) (by have := ((Sb c45 s294 nkk)).size; omega) (.inr (fun kq e => by have := (s71).size; have := hb74; have e' := Option.some.inj e; simp at e'; omega)) (fun A305 cap306 w307 ho308 hg309 hat310 s311 => ?_)
      apply F.nx
      have nb312 : Nb b2 (.slice A305 (0 + k2) cap306) := nb_app2 nb301 (Nat.lt_of_lt_of_le (blk_lt x6) (s294).size) hat310
      have nb313 : Nb b9 (.slice A305 (0 + k2) cap306) := nb_app2 nb302 (Nat.lt_of_lt_of_le (blk_lt x13) (s294).size) hat310
      have nb314 : Nb b17 (.slice A305 (0 + k2) cap306) := nb_app2 nb303 (Nat.lt_of_lt_of_le (blk_lt x21) (s294).size) hat310
      have nb315 : Nb b289 (.slice A305 (0 + k2) cap306) := nb_app2 nb304 (blk_lt x293) hat310
      have x293 := (hg309.block _ (blk_lt x293) nb304).trans x293
      have ho308 := own_joinP ho308
      have fr316 : ∀ kq, (.slice A305 (0 + k2) cap306 : Value).ownBlock = some kq → wlj1.heap.size ≤ kq := fun kq e => by
        have hs := (s294).size
        rcases hat310 with h | h
        · exact (show ∀ kq, Value.ownBlock _ = some kq → wlj1.heap.size ≤ kq from (fun kq e => by have := (s71).size; have := hb74; have e' := Option.some.inj e; simp at e'; omega)) kq (h.symm.trans e)
        · have := Option.some.inj (h.symm.trans e); omega
      refine W.sbr ?_ ?_
      ·refine W.sap (e := 38) (size := 4) (base := w.heap.size) (m := 1) (v := .slice A305 (0 + k2) cap306) (c := 1) s311 rfl rfl rfl rfl kk kk kk ho308 x293 kk kk (by omega) (by omega) (by have := ((Sb c45 s311 nkk)).size; omega) (.inr fr316) (fun g317 cap318 w319 ho320 hg321 hat322 hlt323 s324 => ?_)
       apply F.nx
       have nb325 : Nb b2 (.slice (some ⟨g317, 0, none⟩) ((0 + k2) + 1) cap318) := nb_app nb312 (Nat.lt_of_lt_of_le (blk_lt x6) (s311).size) hat322
       have nb326 : Nb b9 (.slice (some ⟨g317, 0, none⟩) ((0 + k2) + 1) cap318) := nb_app nb313 (Nat.lt_of_lt_of_le (blk_lt x13) (s311).size) hat322
       have nb327 : Nb b17 (.slice (some ⟨g317, 0, none⟩) ((0 + k2) + 1) cap318) := nb_app nb314 (Nat.lt_of_lt_of_le (blk_lt x21) (s311).size) hat322
       have nb328 : Nb b289 (.slice (some ⟨g317, 0, none⟩) ((0 + k2) + 1) cap318) := nb_app nb315 (blk_lt x293) hat322
       have x293 := (hg321.block _ (blk_lt x293) nb315).trans x293
       have ho320 := own_snocP (x := x) ho320
       have fr329 : ∀ kq, (.slice (some ⟨g317, 0, none⟩) ((0 + k2) + 1) cap318 : Value).ownBlock = some kq → wlj1.heap.size ≤ kq := fun kq e => by
         have hs := (s311).size
         have e' : g317 = kq := by simpa [Value.ownBlock] using e
         rcases hat322 with h | h
         · exact (show ∀ kq, Value.ownBlock _ = some kq → wlj1.heap.size ≤ kq from fr316) kq (by rw [← e']; exact h)
         · omega
       refine W.sbr ?_ ?_
       ·refine W.sapR (e := 38) (size := 4) (base := w.heap.size) (v := .slice (some ⟨g317, 0, none⟩) ((0 + k2) + 1) cap318) (A := (sFrom A c k2 4)) (m := (n - k2)) (c := (c - k2)) s324 rfl rfl rfl rfl kk kk kk ho320 (Rd.fromP (Rk ha (Sb c45 s324 nkk)) (by omega) (hf).le) (Fm.from (size := 4) hf (by omega)) (pipes_one _) (by omega) (by have := ((Sb c45 s324 nkk)).size; omega) (.inr fr329) (fun A330 cap331 w332 ho333 hg334 hat335 s336 => ?_)
        apply F.nx
        have nb337 : Nb b2 (.slice A330 (((0 + k2) + 1) + (n - k2)) cap331) := nb_app2 nb325 (Nat.lt_of_lt_of_le (blk_lt x6) (s324).size) hat335
        have nb338 : Nb b9 (.slice A330 (((0 + k2) + 1) + (n - k2)) cap331) := nb_app2 nb326 (Nat.lt_of_lt_of_le (blk_lt x13) (s324).size) hat335
        have nb339 : Nb b17 (.slice A330 (((0 + k2) + 1) + (n - k2)) cap331) := nb_app2 nb327 (Nat.lt_of_lt_of_le (blk_lt x21) (s324).size) hat335
        have x293 := (hg334.block _ (blk_lt x293) nb328).trans x293
        have ho333 := own_joinP ho333
        have fr341 : ∀ kq, (.slice A330 (((0 + k2) + 1) + (n - k2)) cap331 : Value).ownBlock = some kq → wlj1.heap.size ≤ kq := fun kq e => by
          have hs := (s324).size
          rcases hat335 with h | h
          · exact (show ∀ kq, Value.ownBlock _ = some kq → wlj1.heap.size ≤ kq from fr329) kq (h.symm.trans e)
          · have := Option.some.inj (h.symm.trans e); omega
        refine Fq (.agg #[.int .i64 m, .slice A330 (((0 + k2) + 1) + (n - k2)) cap331]) (r_build rfl (vs := [(0, .int .i64 m), (1, .slice A330 (((0 + k2) + 1) + (n - k2)) cap331)]) kk kk) ?_
        refine W.sn (fun b => .pointer (some ⟨b, 0, none⟩)) #[.int .i64 0, .slice none 0 0] 24 s336 rfl kk rfl (fun _ => by kernel_rfl) (fun b342 w343 hb344 k345 x346 s347 => ?_)
        apply F.nx
        have lo348 : w.heap.size ≤ b342 := Nl ((Sb c45 s336 nkk)).size (Nat.le_of_eq hb344)
        have ne349 : b2 ≠ b342 := Nat.ne_of_lt (Nat.lt_of_lt_of_eq (Nat.lt_of_lt_of_le (blk_lt x6) (s336).size) hb344)
        have ne350 : b9 ≠ b342 := Nat.ne_of_lt (Nat.lt_of_lt_of_eq (Nat.lt_of_lt_of_le (blk_lt x13) (s336).size) hb344)
        have ne351 : b17 ≠ b342 := Nat.ne_of_lt (Nat.lt_of_lt_of_eq (Nat.lt_of_lt_of_le (blk_lt x21) (s336).size) hb344)
        have ne352 : b289 ≠ b342 := Nat.ne_of_lt (Nat.lt_of_lt_of_eq (blk_lt x293) hb344)
        have nb353 : Nb b342 (.slice A330 (((0 + k2) + 1) + (n - k2)) cap331) := nb_hi ho333 (Nat.le_of_eq hb344)
        have x293 := (k345.block _ (blk_lt x293)).trans x293
        have ho354 := own_kept ho333 k345
        refine W.ss (v := .agg #[.int .i64 m, .slice A330 (((0 + k2) + 1) + (n - k2)) cap331]) (j := 0) (news := [.int .i64 m, .slice A330 (((0 + k2) + 1) + (n - k2)) cap331]) (cs' := #[.int .i64 m, .slice A330 (((0 + k2) + 1) + (n - k2)) cap331]) s347 rfl kk rfl rfl kk kk x346 kk kk (by simp) kk kk (.inr (Nl (s336).size (Nat.le_of_eq hb344))) (fun w355 g356 x357 s358 => ?_)
        have x293 := (g356.block _ (blk_lt x293) (fun e9 => ne352 (Option.some.inj e9))).trans x293
        have ho359 := own_grown ho354 g356 (fun j e1 e2 => by cases e2; exact nb353 e1.symm)
        apply F.es
        have x6 := Sk s358 x6 onn
        have x13 := Sk s358 x13 onn
        have x21 := Sk s358 x21 onn
        have c360 := (Sb c45 s358 nkk)
        exact h10 0 _ _ ⟨A330, (((0 + k2) + 1) + (n - k2)), cap331, b342, (fun iU9 => lk [(2, .pointer (some ⟨b2, 0, none⟩)), (3, .pointer (some ⟨b9, 0, none⟩)), (4, .pointer (some ⟨b17, 0, none⟩)), (5, .bool false), (6, .int .i64 (k2 : Int)), (7, .pointer (some ⟨b342, 0, none⟩)), (37, .pointer (some ⟨b2, 0, none⟩)), (38, .int .i64 m), (39, .slice (some ⟨b72, 0, none⟩) 0 0), (40, .pointer (some ⟨b2, 1, none⟩)), (41, .slice A n c), (42, .int .i64 (k2 : Int)), (43, .slice A k2 c), (44, .slice A305 (0 + k2) cap306), (45, .agg #[.int .i64 x.id, .int .i64 x.fr, .int .i64 x.to, .int .i64 x.sz]), (46, .slice (some ⟨b289, 0, none⟩) 1 1), (47, .slice (some ⟨g317, 0, none⟩) ((0 + k2) + 1) cap318), (48, .pointer (some ⟨b2, 1, none⟩)), (49, .slice A n c), (50, .int .i64 (k2 : Int)), (51, .slice (sFrom A c k2 4) (n - k2) (c - k2)), (52, .slice A330 (((0 + k2) + 1) + (n - k2)) cap331), (53, .agg #[.int .i64 m, .slice A330 (((0 + k2) + 1) + (n - k2)) cap331])] iU9 (Uj1 iU9)), kk, x6, x13, x21, x357, lo348, ho359, by omega, nb337, nb338, nb339, nb353, ne349, ne350, ne351, c360⟩
       refine W.sn (fun b => .pointer (some ⟨b, 0, none⟩)) #[.int .i64 0, .slice none 0 0] 24 s324 rfl kk rfl (fun _ => by kernel_rfl) (fun b361 w362 hb363 k364 x365 s366 => ?_)
       apply F.nx
       have lo367 : w.heap.size ≤ b361 := Nl ((Sb c45 s324 nkk)).size (Nat.le_of_eq hb363)
       have ne368 : b2 ≠ b361 := Nat.ne_of_lt (Nat.lt_of_lt_of_eq (Nat.lt_of_lt_of_le (blk_lt x6) (s324).size) hb363)
       have ne369 : b9 ≠ b361 := Nat.ne_of_lt (Nat.lt_of_lt_of_eq (Nat.lt_of_lt_of_le (blk_lt x13) (s324).size) hb363)
       have ne370 : b17 ≠ b361 := Nat.ne_of_lt (Nat.lt_of_lt_of_eq (Nat.lt_of_lt_of_le (blk_lt x21) (s324).size) hb363)
       have ne371 : b289 ≠ b361 := Nat.ne_of_lt (Nat.lt_of_lt_of_eq (blk_lt x293) hb363)
       have nb372 : Nb b361 (.slice (some ⟨g317, 0, none⟩) ((0 + k2) + 1) cap318) := nb_hi ho320 (Nat.le_of_eq hb363)
       have x293 := (k364.block _ (blk_lt x293)).trans x293
       have ho373 := own_kept ho320 k364
       refine W.sapR (e := 38) (size := 4) (base := w.heap.size) (v := .slice (some ⟨g317, 0, none⟩) ((0 + k2) + 1) cap318) (A := (sFrom A c k2 4)) (m := (n - k2)) (c := (c - k2)) s366 rfl rfl rfl rfl kk kk kk ho373 (Rd.fromP (Rk ha (Sb c45 s366 nkk)) (by omega) (hf).le) (Fm.from (size := 4) hf (by omega)) (pipes_one _) (by omega) (by have := ((Sb c45 s366 nkk)).size; omega) (.inr fr329) (fun A374 cap375 w376 ho377 hg378 hat379 s380 => ?_)
       apply F.nx
       have nb381 : Nb b2 (.slice A374 (((0 + k2) + 1) + (n - k2)) cap375) := nb_app2 nb325 (Nat.lt_of_lt_of_le (blk_lt x6) (s366).size) hat379
       have nb382 : Nb b9 (.slice A374 (((0 + k2) + 1) + (n - k2)) cap375) := nb_app2 nb326 (Nat.lt_of_lt_of_le (blk_lt x13) (s366).size) hat379
       have nb383 : Nb b17 (.slice A374 (((0 + k2) + 1) + (n - k2)) cap375) := nb_app2 nb327 (Nat.lt_of_lt_of_le (blk_lt x21) (s366).size) hat379
       have x293 := (hg378.block _ (blk_lt x293) nb328).trans x293
       have nb385 : Nb b361 (.slice A374 (((0 + k2) + 1) + (n - k2)) cap375) := nb_app2 nb372 (blk_lt x365) hat379
       have x365 := (hg378.block _ (blk_lt x365) nb372).trans x365
       have ho377 := own_joinP ho377
       have fr386 : ∀ kq, (.slice A374 (((0 + k2) + 1) + (n - k2)) cap375 : Value).ownBlock = some kq → wlj1.heap.size ≤ kq := fun kq e => by
         have hs := (s366).size
         rcases hat379 with h | h
         · exact (show ∀ kq, Value.ownBlock _ = some kq → wlj1.heap.size ≤ kq from fr329) kq (h.symm.trans e)
         · have := Option.some.inj (h.symm.trans e); omega
       refine Fq (.agg #[.int .i64 m, .slice A374 (((0 + k2) + 1) + (n - k2)) cap375]) (r_build rfl (vs := [(0, .int .i64 m), (1, .slice A374 (((0 + k2) + 1) + (n - k2)) cap375)]) kk kk) ?_
       refine W.ss (v := .agg #[.int .i64 m, .slice A374 (((0 + k2) + 1) + (n - k2)) cap375]) (j := 0) (news := [.int .i64 m, .slice A374 (((0 + k2) + 1) + (n - k2)) cap375]) (cs' := #[.int .i64 m, .slice A374 (((0 + k2) + 1) + (n - k2)) cap375]) s380 rfl kk rfl rfl kk kk x365 kk kk (by simp) kk kk (.inr (Nl (s324).size (Nat.le_of_eq hb363))) (fun w387 g388 x389 s390 => ?_)
       have x293 := (g388.block _ (blk_lt x293) (fun e9 => ne371 (Option.some.inj e9))).trans x293
       have ho391 := own_grown ho377 g388 (fun j e1 e2 => by cases e2; exact nb385 e1.symm)
       apply F.es
       have x6 := Sk s390 x6 onn
       have x13 := Sk s390 x13 onn
       have x21 := Sk s390 x21 onn
       have c392 := (Sb c45 s390 nkk)
       exact h10 0 _ _ ⟨A374, (((0 + k2) + 1) + (n - k2)), cap375, b361, (fun iU9 => lk [(2, .pointer (some ⟨b2, 0, none⟩)), (3, .pointer (some ⟨b9, 0, none⟩)), (4, .pointer (some ⟨b17, 0, none⟩)), (5, .bool false), (6, .int .i64 (k2 : Int)), (7, .pointer (some ⟨b361, 0, none⟩)), (37, .pointer (some ⟨b2, 0, none⟩)), (38, .int .i64 m), (39, .slice (some ⟨b72, 0, none⟩) 0 0), (40, .pointer (some ⟨b2, 1, none⟩)), (41, .slice A n c), (42, .int .i64 (k2 : Int)), (43, .slice A k2 c), (44, .slice A305 (0 + k2) cap306), (45, .agg #[.int .i64 x.id, .int .i64 x.fr, .int .i64 x.to, .int .i64 x.sz]), (46, .slice (some ⟨b289, 0, none⟩) 1 1), (47, .slice (some ⟨g317, 0, none⟩) ((0 + k2) + 1) cap318), (48, .pointer (some ⟨b2, 1, none⟩)), (49, .slice A n c), (50, .int .i64 (k2 : Int)), (51, .slice (sFrom A c k2 4) (n - k2) (c - k2)), (52, .slice A374 (((0 + k2) + 1) + (n - k2)) cap375), (53, .agg #[.int .i64 m, .slice A374 (((0 + k2) + 1) + (n - k2)) cap375])] iU9 (Uj1 iU9)), kk, x6, x13, x21, x389, lo367, ho391, by omega, nb381, nb382, nb383, nb385, ne368, ne369, ne370, c392⟩
      refine W.sn (fun b => .pointer (some ⟨b, 0, none⟩)) #[.int .i64 0, .slice none 0 0] 24 s311 rfl kk rfl (fun _ => by kernel_rfl) (fun b393 w394 hb395 k396 x397 s398 => ?_)
      apply F.nx
      have lo399 : w.heap.size ≤ b393 := Nl ((Sb c45 s311 nkk)).size (Nat.le_of_eq hb395)
      have ne400 : b2 ≠ b393 := Nat.ne_of_lt (Nat.lt_of_lt_of_eq (Nat.lt_of_lt_of_le (blk_lt x6) (s311).size) hb395)
      have ne401 : b9 ≠ b393 := Nat.ne_of_lt (Nat.lt_of_lt_of_eq (Nat.lt_of_lt_of_le (blk_lt x13) (s311).size) hb395)
      have ne402 : b17 ≠ b393 := Nat.ne_of_lt (Nat.lt_of_lt_of_eq (Nat.lt_of_lt_of_le (blk_lt x21) (s311).size) hb395)
      have ne403 : b289 ≠ b393 := Nat.ne_of_lt (Nat.lt_of_lt_of_eq (blk_lt x293) hb395)
      have nb404 : Nb b393 (.slice A305 (0 + k2) cap306) := nb_hi ho308 (Nat.le_of_eq hb395)
      have x293 := (k396.block _ (blk_lt x293)).trans x293
      have ho405 := own_kept ho308 k396
      refine W.sap (e := 38) (size := 4) (base := w.heap.size) (m := 1) (v := .slice A305 (0 + k2) cap306) (c := 1) s398 rfl rfl rfl rfl kk kk kk ho405 x293 kk kk (by omega) (by omega) (by have := ((Sb c45 s398 nkk)).size; omega) (.inr fr316) (fun g406 cap407 w408 ho409 hg410 hat411 hlt412 s413 => ?_)
      apply F.nx
      have nb414 : Nb b2 (.slice (some ⟨g406, 0, none⟩) ((0 + k2) + 1) cap407) := nb_app nb312 (Nat.lt_of_lt_of_le (blk_lt x6) (s398).size) hat411
      have nb415 : Nb b9 (.slice (some ⟨g406, 0, none⟩) ((0 + k2) + 1) cap407) := nb_app nb313 (Nat.lt_of_lt_of_le (blk_lt x13) (s398).size) hat411
      have nb416 : Nb b17 (.slice (some ⟨g406, 0, none⟩) ((0 + k2) + 1) cap407) := nb_app nb314 (Nat.lt_of_lt_of_le (blk_lt x21) (s398).size) hat411
      have nb417 : Nb b289 (.slice (some ⟨g406, 0, none⟩) ((0 + k2) + 1) cap407) := nb_app nb315 (blk_lt x293) hat411
      have x293 := (hg410.block _ (blk_lt x293) nb315).trans x293
      have nb418 : Nb b393 (.slice (some ⟨g406, 0, none⟩) ((0 + k2) + 1) cap407) := nb_app nb404 (blk_lt x397) hat411
      have x397 := (hg410.block _ (blk_lt x397) nb404).trans x397
      have ho409 := own_snocP (x := x) ho409
      have fr419 : ∀ kq, (.slice (some ⟨g406, 0, none⟩) ((0 + k2) + 1) cap407 : Value).ownBlock = some kq → wlj1.heap.size ≤ kq := fun kq e => by
        have hs := (s398).size
        have e' : g406 = kq := by simpa [Value.ownBlock] using e
        rcases hat411 with h | h
        · exact (show ∀ kq, Value.ownBlock _ = some kq → wlj1.heap.size ≤ kq from fr316) kq (by rw [← e']; exact h)
        · omega
      refine W.sapR (e := 38) (size := 4) (base := w.heap.size) (v := .slice (some ⟨g406, 0, none⟩) ((0 + k2) + 1) cap407) (A := (sFrom A c k2 4)) (m := (n - k2)) (c := (c - k2)) s413 rfl rfl rfl rfl kk kk kk ho409 (Rd.fromP (Rk ha (Sb c45 s413 nkk)) (by omega) (hf).le) (Fm.from (size := 4) hf (by omega)) (pipes_one _) (by omega) (by have := ((Sb c45 s413 nkk)).size; omega) (.inr fr419) (fun A420 cap421 w422 ho423 hg424 hat425 s426 => ?_)
      apply F.nx
      have nb427 : Nb b2 (.slice A420 (((0 + k2) + 1) + (n - k2)) cap421) := nb_app2 nb414 (Nat.lt_of_lt_of_le (blk_lt x6) (s413).size) hat425
      have nb428 : Nb b9 (.slice A420 (((0 + k2) + 1) + (n - k2)) cap421) := nb_app2 nb415 (Nat.lt_of_lt_of_le (blk_lt x13) (s413).size) hat425
      have nb429 : Nb b17 (.slice A420 (((0 + k2) + 1) + (n - k2)) cap421) := nb_app2 nb416 (Nat.lt_of_lt_of_le (blk_lt x21) (s413).size) hat425
      have x293 := (hg424.block _ (blk_lt x293) nb417).trans x293
      have nb431 : Nb b393 (.slice A420 (((0 + k2) + 1) + (n - k2)) cap421) := nb_app2 nb418 (blk_lt x397) hat425
      have x397 := (hg424.block _ (blk_lt x397) nb418).trans x397
      have ho423 := own_joinP ho423
      have fr432 : ∀ kq, (.slice A420 (((0 + k2) + 1) + (n - k2)) cap421 : Value).ownBlock = some kq → wlj1.heap.size ≤ kq := fun kq e => by
        have hs := (s413).size
        rcases hat425 with h | h
        · exact (show ∀ kq, Value.ownBlock _ = some kq → wlj1.heap.size ≤ kq from fr419) kq (h.symm.trans e)
        · have := Option.some.inj (h.symm.trans e); omega
      refine Fq (.agg #[.int .i64 m, .slice A420 (((0 + k2) + 1) + (n - k2)) cap421]) (r_build rfl (vs := [(0, .int .i64 m), (1, .slice A420 (((0 + k2) + 1) + (n - k2)) cap421)]) kk kk) ?_
      refine W.ss (v := .agg #[.int .i64 m, .slice A420 (((0 + k2) + 1) + (n - k2)) cap421]) (j := 0) (news := [.int .i64 m, .slice A420 (((0 + k2) + 1) + (n - k2)) cap421]) (cs' := #[.int .i64 m, .slice A420 (((0 + k2) + 1) + (n - k2)) cap421]) s426 rfl kk rfl rfl kk kk x397 kk kk (by simp) kk kk (.inr (Nl (s311).size (Nat.le_of_eq hb395))) (fun w433 g434 x435 s436 => ?_)
      have x293 := (g434.block _ (blk_lt x293) (fun e9 => ne403 (Option.some.inj e9))).trans x293
      have ho437 := own_grown ho423 g434 (fun j e1 e2 => by cases e2; exact nb431 e1.symm)
      apply F.es
      have x6 := Sk s436 x6 onn
      have x13 := Sk s436 x13 onn
      have x21 := Sk s436 x21 onn
      have c438 := (Sb c45 s436 nkk)
      exact h10 0 _ _ ⟨A420, (((0 + k2) + 1) + (n - k2)), cap421, b393, (fun iU9 => lk [(2, .pointer (some ⟨b2, 0, none⟩)), (3, .pointer (some ⟨b9, 0, none⟩)), (4, .pointer (some ⟨b17, 0, none⟩)), (5, .bool false), (6, .int .i64 (k2 : Int)), (7, .pointer (some ⟨b393, 0, none⟩)), (37, .pointer (some ⟨b2, 0, none⟩)), (38, .int .i64 m), (39, .slice (some ⟨b72, 0, none⟩) 0 0), (40, .pointer (some ⟨b2, 1, none⟩)), (41, .slice A n c), (42, .int .i64 (k2 : Int)), (43, .slice A k2 c), (44, .slice A305 (0 + k2) cap306), (45, .agg #[.int .i64 x.id, .int .i64 x.fr, .int .i64 x.to, .int .i64 x.sz]), (46, .slice (some ⟨b289, 0, none⟩) 1 1), (47, .slice (some ⟨g406, 0, none⟩) ((0 + k2) + 1) cap407), (48, .pointer (some ⟨b2, 1, none⟩)), (49, .slice A n c), (50, .int .i64 (k2 : Int)), (51, .slice (sFrom A c k2 4) (n - k2) (c - k2)), (52, .slice A420 (((0 + k2) + 1) + (n - k2)) cap421), (53, .agg #[.int .i64 m, .slice A420 (((0 + k2) + 1) + (n - k2)) cap421])] iU9 (Uj1 iU9)), kk, x6, x13, x21, x435, lo399, ho437, by omega, nb427, nb428, nb429, nb431, ne400, ne401, ne402, c438⟩
     refine W.sn (fun b => .pointer (some ⟨b, 0, none⟩)) #[.int .i64 0, .slice none 0 0] 24 s294 rfl kk rfl (fun _ => by kernel_rfl) (fun b439 w440 hb441 k442 x443 s444 => ?_)
     apply F.nx
     have lo445 : w.heap.size ≤ b439 := Nl ((Sb c45 s294 nkk)).size (Nat.le_of_eq hb441)
     have ne446 : b2 ≠ b439 := Nat.ne_of_lt (Nat.lt_of_lt_of_eq (Nat.lt_of_lt_of_le (blk_lt x6) (s294).size) hb441)
     have ne447 : b9 ≠ b439 := Nat.ne_of_lt (Nat.lt_of_lt_of_eq (Nat.lt_of_lt_of_le (blk_lt x13) (s294).size) hb441)
     have ne448 : b17 ≠ b439 := Nat.ne_of_lt (Nat.lt_of_lt_of_eq (Nat.lt_of_lt_of_le (blk_lt x21) (s294).size) hb441)
     have ne449 : b72 ≠ b439 := Nat.ne_of_lt (Nat.lt_of_lt_of_eq (blk_lt x76) hb441)
     have x76 := (k442.block _ (blk_lt x76)).trans x76
     have x293 := (k442.block _ (blk_lt x293)).trans x293
     have ho451 := own_empty (base := w.heap.size) (size := 4) x76 lo78
     replace ho451 : World.ownsRow _ _ _ _ _ _ (pipesV []) := ho451
     have nb452 : Nb b2 (.slice (some ⟨b72, 0, none⟩) 0 0) := nb_new ne79
     have nb453 : Nb b9 (.slice (some ⟨b72, 0, none⟩) 0 0) := nb_new ne80
     have nb454 : Nb b17 (.slice (some ⟨b72, 0, none⟩) 0 0) := nb_new ne81
     have nb455 : Nb b289 (.slice (some ⟨b72, 0, none⟩) 0 0) := nb_new (Ne.symm ne299)
     have nb456 : Nb b439 (.slice (some ⟨b72, 0, none⟩) 0 0) := nb_new (Ne.symm ne449)
     replace ho451 : World.ownsRow _ _ _ _ _ _ (pipesV []) := ho451
     refine W.sapR (e := 38) (size := 4) (base := w.heap.size) (v := .slice (some ⟨b72, 0, none⟩) 0 0) (A := A) (m := k2) (c := c) s444 rfl rfl rfl rfl kk kk kk ho451 (Rd.toP (Rk ha (Sb c45 s444 nkk)) (by omega)) (Fm.to hf (by have := (hf).le; omega)) (pipes_one _) (by omega) (by have := ((Sb c45 s444 nkk)).size; omega) (.inr (fun kq e => by have := (s71).size; have := hb74; have e' := Option.some.inj e; simp at e'; omega)) (fun A457 cap458 w459 ho460 hg461 hat462 s463 => ?_)
     apply F.nx
     have nb464 : Nb b2 (.slice A457 (0 + k2) cap458) := nb_app2 nb452 (Nat.lt_of_lt_of_le (blk_lt x6) (s444).size) hat462
     have nb465 : Nb b9 (.slice A457 (0 + k2) cap458) := nb_app2 nb453 (Nat.lt_of_lt_of_le (blk_lt x13) (s444).size) hat462
     have nb466 : Nb b17 (.slice A457 (0 + k2) cap458) := nb_app2 nb454 (Nat.lt_of_lt_of_le (blk_lt x21) (s444).size) hat462
     have x293 := (hg461.block _ (blk_lt x293) nb455).trans x293
     have nb468 : Nb b439 (.slice A457 (0 + k2) cap458) := nb_app2 nb456 (blk_lt x443) hat462
     have x443 := (hg461.block _ (blk_lt x443) nb456).trans x443
     have ho460 := own_joinP ho460
     have fr469 : ∀ kq, (.slice A457 (0 + k2) cap458 : Value).ownBlock = some kq → wlj1.heap.size ≤ kq := fun kq e => by
       have hs := (s444).size
       rcases hat462 with h | h
       · exact (show ∀ kq, Value.ownBlock _ = some kq → wlj1.heap.size ≤ kq from (fun kq e => by have := (s71).size; have := hb74; have e' := Option.some.inj e; simp at e'; omega)) kq (h.symm.trans e)
       · have := Option.some.inj (h.symm.trans e); omega
     refine W.sap (e := 38) (size := 4) (base := w.heap.size) (m := 1) (v := .slice A457 (0 + k2) cap458) (c := 1) s463 rfl rfl rfl rfl kk kk kk ho460 x293 kk kk (by omega) (by omega) (by have := ((Sb c45 s463 nkk)).size; omega) (.inr fr469) (fun g470 cap471 w472 ho473 hg474 hat475 hlt476 s477 => ?_)
     apply F.nx
     have nb478 : Nb b2 (.slice (some ⟨g470, 0, none⟩) ((0 + k2) + 1) cap471) := nb_app nb464 (Nat.lt_of_lt_of_le (blk_lt x6) (s463).size) hat475
     have nb479 : Nb b9 (.slice (some ⟨g470, 0, none⟩) ((0 + k2) + 1) cap471) := nb_app nb465 (Nat.lt_of_lt_of_le (blk_lt x13) (s463).size) hat475
     have nb480 : Nb b17 (.slice (some ⟨g470, 0, none⟩) ((0 + k2) + 1) cap471) := nb_app nb466 (Nat.lt_of_lt_of_le (blk_lt x21) (s463).size) hat475
     have nb482 : Nb b439 (.slice (some ⟨g470, 0, none⟩) ((0 + k2) + 1) cap471) := nb_app nb468 (blk_lt x443) hat475
     have x443 := (hg474.block _ (blk_lt x443) nb468).trans x443
     have ho473 := own_snocP (x := x) ho473
     have fr483 : ∀ kq, (.slice (some ⟨g470, 0, none⟩) ((0 + k2) + 1) cap471 : Value).ownBlock = some kq → wlj1.heap.size ≤ kq := fun kq e => by
       have hs := (s463).size
       have e' : g470 = kq := by simpa [Value.ownBlock] using e
       rcases hat475 with h | h
       · exact (show ∀ kq, Value.ownBlock _ = some kq → wlj1.heap.size ≤ kq from fr469) kq (by rw [← e']; exact h)
       · omega
     refine W.sapR (e := 38) (size := 4) (base := w.heap.size) (v := .slice (some ⟨g470, 0, none⟩) ((0 + k2) + 1) cap471) (A := (sFrom A c k2 4)) (m := (n - k2)) (c := (c - k2)) s477 rfl rfl rfl rfl kk kk kk ho473 (Rd.fromP (Rk ha (Sb c45 s477 nkk)) (by omega) (hf).le) (Fm.from (size := 4) hf (by omega)) (pipes_one _) (by omega) (by have := ((Sb c45 s477 nkk)).size; omega) (.inr fr483) (fun A484 cap485 w486 ho487 hg488 hat489 s490 => ?_)
     apply F.nx
     have nb491 : Nb b2 (.slice A484 (((0 + k2) + 1) + (n - k2)) cap485) := nb_app2 nb478 (Nat.lt_of_lt_of_le (blk_lt x6) (s477).size) hat489
     have nb492 : Nb b9 (.slice A484 (((0 + k2) + 1) + (n - k2)) cap485) := nb_app2 nb479 (Nat.lt_of_lt_of_le (blk_lt x13) (s477).size) hat489
     have nb493 : Nb b17 (.slice A484 (((0 + k2) + 1) + (n - k2)) cap485) := nb_app2 nb480 (Nat.lt_of_lt_of_le (blk_lt x21) (s477).size) hat489
     have nb495 : Nb b439 (.slice A484 (((0 + k2) + 1) + (n - k2)) cap485) := nb_app2 nb482 (blk_lt x443) hat489
     have x443 := (hg488.block _ (blk_lt x443) nb482).trans x443
     have ho487 := own_joinP ho487
     have fr496 : ∀ kq, (.slice A484 (((0 + k2) + 1) + (n - k2)) cap485 : Value).ownBlock = some kq → wlj1.heap.size ≤ kq := fun kq e => by
       have hs := (s477).size
       rcases hat489 with h | h
       · exact (show ∀ kq, Value.ownBlock _ = some kq → wlj1.heap.size ≤ kq from fr483) kq (h.symm.trans e)
       · have := Option.some.inj (h.symm.trans e); omega
     refine Fq (.agg #[.int .i64 m, .slice A484 (((0 + k2) + 1) + (n - k2)) cap485]) (r_build rfl (vs := [(0, .int .i64 m), (1, .slice A484 (((0 + k2) + 1) + (n - k2)) cap485)]) kk kk) ?_
     refine W.ss (v := .agg #[.int .i64 m, .slice A484 (((0 + k2) + 1) + (n - k2)) cap485]) (j := 0) (news := [.int .i64 m, .slice A484 (((0 + k2) + 1) + (n - k2)) cap485]) (cs' := #[.int .i64 m, .slice A484 (((0 + k2) + 1) + (n - k2)) cap485]) s490 rfl kk rfl rfl kk kk x443 kk kk (by simp) kk kk (.inr (Nl (s294).size (Nat.le_of_eq hb441))) (fun w497 g498 x499 s500 => ?_)
     have ho501 := own_grown ho487 g498 (fun j e1 e2 => by cases e2; exact nb495 e1.symm)
     apply F.es
     have x6 := Sk s500 x6 onn
     have x13 := Sk s500 x13 onn
     have x21 := Sk s500 x21 onn
     have c502 := (Sb c45 s500 nkk)
     exact h10 0 _ _ ⟨A484, (((0 + k2) + 1) + (n - k2)), cap485, b439, (fun iU9 => lk [(2, .pointer (some ⟨b2, 0, none⟩)), (3, .pointer (some ⟨b9, 0, none⟩)), (4, .pointer (some ⟨b17, 0, none⟩)), (5, .bool false), (6, .int .i64 (k2 : Int)), (7, .pointer (some ⟨b439, 0, none⟩)), (37, .pointer (some ⟨b2, 0, none⟩)), (38, .int .i64 m), (39, .slice (some ⟨b72, 0, none⟩) 0 0), (40, .pointer (some ⟨b2, 1, none⟩)), (41, .slice A n c), (42, .int .i64 (k2 : Int)), (43, .slice A k2 c), (44, .slice A457 (0 + k2) cap458), (45, .agg #[.int .i64 x.id, .int .i64 x.fr, .int .i64 x.to, .int .i64 x.sz]), (46, .slice (some ⟨b289, 0, none⟩) 1 1), (47, .slice (some ⟨g470, 0, none⟩) ((0 + k2) + 1) cap471), (48, .pointer (some ⟨b2, 1, none⟩)), (49, .slice A n c), (50, .int .i64 (k2 : Int)), (51, .slice (sFrom A c k2 4) (n - k2) (c - k2)), (52, .slice A484 (((0 + k2) + 1) + (n - k2)) cap485), (53, .agg #[.int .i64 m, .slice A484 (((0 + k2) + 1) + (n - k2)) cap485])] iU9 (Uj1 iU9)), kk, x6, x13, x21, x499, lo445, ho501, by omega, nb491, nb492, nb493, nb495, ne446, ne447, ne448, c502⟩
    refine W.sn (fun b => .pointer (some ⟨b, 0, none⟩)) #[.int .i64 0, .slice none 0 0] 24 s77 rfl kk rfl (fun _ => by kernel_rfl) (fun b503 w504 hb505 k506 x507 s508 => ?_)
    apply F.nx
    have lo509 : w.heap.size ≤ b503 := Nl ((Sb c45 s77 nkk)).size (Nat.le_of_eq hb505)
    have ne510 : b2 ≠ b503 := Nat.ne_of_lt (Nat.lt_of_lt_of_eq (Nat.lt_of_lt_of_le (blk_lt x6) (s77).size) hb505)
    have ne511 : b9 ≠ b503 := Nat.ne_of_lt (Nat.lt_of_lt_of_eq (Nat.lt_of_lt_of_le (blk_lt x13) (s77).size) hb505)
    have ne512 : b17 ≠ b503 := Nat.ne_of_lt (Nat.lt_of_lt_of_eq (Nat.lt_of_lt_of_le (blk_lt x21) (s77).size) hb505)
    have ne513 : b72 ≠ b503 := Nat.ne_of_lt (Nat.lt_of_lt_of_eq (blk_lt x76) hb505)
    have x76 := (k506.block _ (blk_lt x76)).trans x76
    refine W.sbr ?_ ?_
    ·have ho514 := own_empty (base := w.heap.size) (size := 4) x76 lo78
     replace ho514 : World.ownsRow _ _ _ _ _ _ (pipesV []) := ho514
     have nb515 : Nb b2 (.slice (some ⟨b72, 0, none⟩) 0 0) := nb_new ne79
     have nb516 : Nb b9 (.slice (some ⟨b72, 0, none⟩) 0 0) := nb_new ne80
     have nb517 : Nb b17 (.slice (some ⟨b72, 0, none⟩) 0 0) := nb_new ne81
     have nb518 : Nb b503 (.slice (some ⟨b72, 0, none⟩) 0 0) := nb_new (Ne.symm ne513)
     replace ho514 : World.ownsRow _ _ _ _ _ _ (pipesV []) := ho514
     refine W.sapR (e := 38) (size := 4) (base := w.heap.size) (v := .slice (some ⟨b72, 0, none⟩) 0 0) (A := A) (m := k2) (c := c) s508 rfl rfl rfl rfl kk kk kk ho514 (Rd.toP (Rk ha (Sb c45 s508 nkk)) (by omega)) (Fm.to hf (by have := (hf).le; omega)) (pipes_one _) (by omega) (by have := ((Sb c45 s508 nkk)).size; omega) (.inr (fun kq e => by have := (s71).size; have := hb74; have e' := Option.some.inj e; simp at e'; omega)) (fun A519 cap520 w521 ho522 hg523 hat524 s525 => ?_)
     apply F.nx
     have nb526 : Nb b2 (.slice A519 (0 + k2) cap520) := nb_app2 nb515 (Nat.lt_of_lt_of_le (blk_lt x6) (s508).size) hat524
     have nb527 : Nb b9 (.slice A519 (0 + k2) cap520) := nb_app2 nb516 (Nat.lt_of_lt_of_le (blk_lt x13) (s508).size) hat524
     have nb528 : Nb b17 (.slice A519 (0 + k2) cap520) := nb_app2 nb517 (Nat.lt_of_lt_of_le (blk_lt x21) (s508).size) hat524
     have nb529 : Nb b503 (.slice A519 (0 + k2) cap520) := nb_app2 nb518 (blk_lt x507) hat524
     have x507 := (hg523.block _ (blk_lt x507) nb518).trans x507
     have ho522 := own_joinP ho522
     have fr530 : ∀ kq, (.slice A519 (0 + k2) cap520 : Value).ownBlock = some kq → wlj1.heap.size ≤ kq := fun kq e => by
       have hs := (s508).size
       rcases hat524 with h | h
       · exact (show ∀ kq, Value.ownBlock _ = some kq → wlj1.heap.size ≤ kq from (fun kq e => by have := (s71).size; have := hb74; have e' := Option.some.inj e; simp at e'; omega)) kq (h.symm.trans e)
       · have := Option.some.inj (h.symm.trans e); omega
     refine W.sn (fun b => .slice (some ⟨b, 0, none⟩) 1 1) #[.int .i64 x.id, .int .i64 x.fr, .int .i64 x.to, .int .i64 x.sz] 38 s525 rfl kk rfl (fun _ => by kernel_rfl) (fun b531 w532 hb533 k534 x535 s536 => ?_)
     apply F.nx
     have lo537 : w.heap.size ≤ b531 := Nl ((Sb c45 s525 nkk)).size (Nat.le_of_eq hb533)
     have x507 := (k534.block _ (blk_lt x507)).trans x507
     have ho543 := own_kept ho522 k534
     refine W.sap (e := 38) (size := 4) (base := w.heap.size) (m := 1) (v := .slice A519 (0 + k2) cap520) (c := 1) s536 rfl rfl rfl rfl kk kk kk ho543 x535 kk kk (by omega) (by omega) (by have := ((Sb c45 s536 nkk)).size; omega) (.inr fr530) (fun g544 cap545 w546 ho547 hg548 hat549 hlt550 s551 => ?_)
     apply F.nx
     have nb552 : Nb b2 (.slice (some ⟨g544, 0, none⟩) ((0 + k2) + 1) cap545) := nb_app nb526 (Nat.lt_of_lt_of_le (blk_lt x6) (s536).size) hat549
     have nb553 : Nb b9 (.slice (some ⟨g544, 0, none⟩) ((0 + k2) + 1) cap545) := nb_app nb527 (Nat.lt_of_lt_of_le (blk_lt x13) (s536).size) hat549
     have nb554 : Nb b17 (.slice (some ⟨g544, 0, none⟩) ((0 + k2) + 1) cap545) := nb_app nb528 (Nat.lt_of_lt_of_le (blk_lt x21) (s536).size) hat549
     have nb555 : Nb b503 (.slice (some ⟨g544, 0, none⟩) ((0 + k2) + 1) cap545) := nb_app nb529 (blk_lt x507) hat549
     have x507 := (hg548.block _ (blk_lt x507) nb529).trans x507
     have ho547 := own_snocP (x := x) ho547
     have fr557 : ∀ kq, (.slice (some ⟨g544, 0, none⟩) ((0 + k2) + 1) cap545 : Value).ownBlock = some kq → wlj1.heap.size ≤ kq := fun kq e => by
       have hs := (s536).size
       have e' : g544 = kq := by simpa [Value.ownBlock] using e
       rcases hat549 with h | h
       · exact (show ∀ kq, Value.ownBlock _ = some kq → wlj1.heap.size ≤ kq from fr530) kq (by rw [← e']; exact h)
       · omega
     refine W.sapR (e := 38) (size := 4) (base := w.heap.size) (v := .slice (some ⟨g544, 0, none⟩) ((0 + k2) + 1) cap545) (A := (sFrom A c k2 4)) (m := (n - k2)) (c := (c - k2)) s551 rfl rfl rfl rfl kk kk kk ho547 (Rd.fromP (Rk ha (Sb c45 s551 nkk)) (by omega) (hf).le) (Fm.from (size := 4) hf (by omega)) (pipes_one _) (by omega) (by have := ((Sb c45 s551 nkk)).size; omega) (.inr fr557) (fun A558 cap559 w560 ho561 hg562 hat563 s564 => ?_)
     apply F.nx
     have nb565 : Nb b2 (.slice A558 (((0 + k2) + 1) + (n - k2)) cap559) := nb_app2 nb552 (Nat.lt_of_lt_of_le (blk_lt x6) (s551).size) hat563
     have nb566 : Nb b9 (.slice A558 (((0 + k2) + 1) + (n - k2)) cap559) := nb_app2 nb553 (Nat.lt_of_lt_of_le (blk_lt x13) (s551).size) hat563
     have nb567 : Nb b17 (.slice A558 (((0 + k2) + 1) + (n - k2)) cap559) := nb_app2 nb554 (Nat.lt_of_lt_of_le (blk_lt x21) (s551).size) hat563
     have nb568 : Nb b503 (.slice A558 (((0 + k2) + 1) + (n - k2)) cap559) := nb_app2 nb555 (blk_lt x507) hat563
     have x507 := (hg562.block _ (blk_lt x507) nb555).trans x507
     have ho561 := own_joinP ho561
     have fr570 : ∀ kq, (.slice A558 (((0 + k2) + 1) + (n - k2)) cap559 : Value).ownBlock = some kq → wlj1.heap.size ≤ kq := fun kq e => by
       have hs := (s551).size
       rcases hat563 with h | h
       · exact (show ∀ kq, Value.ownBlock _ = some kq → wlj1.heap.size ≤ kq from fr557) kq (h.symm.trans e)
       · have := Option.some.inj (h.symm.trans e); omega
     refine Fq (.agg #[.int .i64 m, .slice A558 (((0 + k2) + 1) + (n - k2)) cap559]) (r_build rfl (vs := [(0, .int .i64 m), (1, .slice A558 (((0 + k2) + 1) + (n - k2)) cap559)]) kk kk) ?_
     refine W.ss (v := .agg #[.int .i64 m, .slice A558 (((0 + k2) + 1) + (n - k2)) cap559]) (j := 0) (news := [.int .i64 m, .slice A558 (((0 + k2) + 1) + (n - k2)) cap559]) (cs' := #[.int .i64 m, .slice A558 (((0 + k2) + 1) + (n - k2)) cap559]) s564 rfl kk rfl rfl kk kk x507 kk kk (by simp) kk kk (.inr (Nl (s77).size (Nat.le_of_eq hb505))) (fun w571 g572 x573 s574 => ?_)
     have ho575 := own_grown ho561 g572 (fun j e1 e2 => by cases e2; exact nb568 e1.symm)
     apply F.es
     have x6 := Sk s574 x6 onn
     have x13 := Sk s574 x13 onn
     have x21 := Sk s574 x21 onn
     have c576 := (Sb c45 s574 nkk)
     exact h10 0 _ _ ⟨A558, (((0 + k2) + 1) + (n - k2)), cap559, b503, (fun iU9 => lk [(2, .pointer (some ⟨b2, 0, none⟩)), (3, .pointer (some ⟨b9, 0, none⟩)), (4, .pointer (some ⟨b17, 0, none⟩)), (5, .bool false), (6, .int .i64 (k2 : Int)), (7, .pointer (some ⟨b503, 0, none⟩)), (37, .pointer (some ⟨b2, 0, none⟩)), (38, .int .i64 m), (39, .slice (some ⟨b72, 0, none⟩) 0 0), (40, .pointer (some ⟨b2, 1, none⟩)), (41, .slice A n c), (42, .int .i64 (k2 : Int)), (43, .slice A k2 c), (44, .slice A519 (0 + k2) cap520), (45, .agg #[.int .i64 x.id, .int .i64 x.fr, .int .i64 x.to, .int .i64 x.sz]), (46, .slice (some ⟨b531, 0, none⟩) 1 1), (47, .slice (some ⟨g544, 0, none⟩) ((0 + k2) + 1) cap545), (48, .pointer (some ⟨b2, 1, none⟩)), (49, .slice A n c), (50, .int .i64 (k2 : Int)), (51, .slice (sFrom A c k2 4) (n - k2) (c - k2)), (52, .slice A558 (((0 + k2) + 1) + (n - k2)) cap559), (53, .agg #[.int .i64 m, .slice A558 (((0 + k2) + 1) + (n - k2)) cap559])] iU9 (Uj1 iU9)), kk, x6, x13, x21, x573, lo509, ho575, by omega, nb565, nb566, nb567, nb568, ne510, ne511, ne512, c576⟩
    refine W.sn (fun b => .slice (some ⟨b, 0, none⟩) 1 1) #[.int .i64 x.id, .int .i64 x.fr, .int .i64 x.to, .int .i64 x.sz] 38 s508 rfl kk rfl (fun _ => by kernel_rfl) (fun b577 w578 hb579 k580 x581 s582 => ?_)
    apply F.nx
    have lo583 : w.heap.size ≤ b577 := Nl ((Sb c45 s508 nkk)).size (Nat.le_of_eq hb579)
    have ne587 : b72 ≠ b577 := Nat.ne_of_lt (Nat.lt_of_lt_of_eq (blk_lt x76) hb579)
    have x76 := (k580.block _ (blk_lt x76)).trans x76
    have x507 := (k580.block _ (blk_lt x507)).trans x507
    have ho589 := own_empty (base := w.heap.size) (size := 4) x76 lo78
    replace ho589 : World.ownsRow _ _ _ _ _ _ (pipesV []) := ho589
    have nb590 : Nb b2 (.slice (some ⟨b72, 0, none⟩) 0 0) := nb_new ne79
    have nb591 : Nb b9 (.slice (some ⟨b72, 0, none⟩) 0 0) := nb_new ne80
    have nb592 : Nb b17 (.slice (some ⟨b72, 0, none⟩) 0 0) := nb_new ne81
    have nb593 : Nb b503 (.slice (some ⟨b72, 0, none⟩) 0 0) := nb_new (Ne.symm ne513)
    have nb594 : Nb b577 (.slice (some ⟨b72, 0, none⟩) 0 0) := nb_new (Ne.symm ne587)
    replace ho589 : World.ownsRow _ _ _ _ _ _ (pipesV []) := ho589
    refine W.sapR (e := 38) (size := 4) (base := w.heap.size) (v := .slice (some ⟨b72, 0, none⟩) 0 0) (A := A) (m := k2) (c := c) s582 rfl rfl rfl rfl kk kk kk ho589 (Rd.toP (Rk ha (Sb c45 s582 nkk)) (by omega)) (Fm.to hf (by have := (hf).le; omega)) (pipes_one _) (by omega) (by have := ((Sb c45 s582 nkk)).size; omega) (.inr (fun kq e => by have := (s71).size; have := hb74; have e' := Option.some.inj e; simp at e'; omega)) (fun A595 cap596 w597 ho598 hg599 hat600 s601 => ?_)
    apply F.nx
    have nb602 : Nb b2 (.slice A595 (0 + k2) cap596) := nb_app2 nb590 (Nat.lt_of_lt_of_le (blk_lt x6) (s582).size) hat600
    have nb603 : Nb b9 (.slice A595 (0 + k2) cap596) := nb_app2 nb591 (Nat.lt_of_lt_of_le (blk_lt x13) (s582).size) hat600
    have nb604 : Nb b17 (.slice A595 (0 + k2) cap596) := nb_app2 nb592 (Nat.lt_of_lt_of_le (blk_lt x21) (s582).size) hat600
    have nb605 : Nb b503 (.slice A595 (0 + k2) cap596) := nb_app2 nb593 (blk_lt x507) hat600
    have x507 := (hg599.block _ (blk_lt x507) nb593).trans x507
    have x581 := (hg599.block _ (blk_lt x581) nb594).trans x581
    have ho598 := own_joinP ho598
    have fr607 : ∀ kq, (.slice A595 (0 + k2) cap596 : Value).ownBlock = some kq → wlj1.heap.size ≤ kq := fun kq e => by
      have hs := (s582).size
      rcases hat600 with h | h
      · exact (show ∀ kq, Value.ownBlock _ = some kq → wlj1.heap.size ≤ kq from (fun kq e => by have := (s71).size; have := hb74; have e' := Option.some.inj e; simp at e'; omega)) kq (h.symm.trans e)
      · have := Option.some.inj (h.symm.trans e); omega
    refine W.sap (e := 38) (size := 4) (base := w.heap.size) (m := 1) (v := .slice A595 (0 + k2) cap596) (c := 1) s601 rfl rfl rfl rfl kk kk kk ho598 x581 kk kk (by omega) (by omega) (by have := ((Sb c45 s601 nkk)).size; omega) (.inr fr607) (fun g608 cap609 w610 ho611 hg612 hat613 hlt614 s615 => ?_)
    apply F.nx
    have nb616 : Nb b2 (.slice (some ⟨g608, 0, none⟩) ((0 + k2) + 1) cap609) := nb_app nb602 (Nat.lt_of_lt_of_le (blk_lt x6) (s601).size) hat613
    have nb617 : Nb b9 (.slice (some ⟨g608, 0, none⟩) ((0 + k2) + 1) cap609) := nb_app nb603 (Nat.lt_of_lt_of_le (blk_lt x13) (s601).size) hat613
    have nb618 : Nb b17 (.slice (some ⟨g608, 0, none⟩) ((0 + k2) + 1) cap609) := nb_app nb604 (Nat.lt_of_lt_of_le (blk_lt x21) (s601).size) hat613
    have nb619 : Nb b503 (.slice (some ⟨g608, 0, none⟩) ((0 + k2) + 1) cap609) := nb_app nb605 (blk_lt x507) hat613
    have x507 := (hg612.block _ (blk_lt x507) nb605).trans x507
    have ho611 := own_snocP (x := x) ho611
    have fr621 : ∀ kq, (.slice (some ⟨g608, 0, none⟩) ((0 + k2) + 1) cap609 : Value).ownBlock = some kq → wlj1.heap.size ≤ kq := fun kq e => by
      have hs := (s601).size
      have e' : g608 = kq := by simpa [Value.ownBlock] using e
      rcases hat613 with h | h
      · exact (show ∀ kq, Value.ownBlock _ = some kq → wlj1.heap.size ≤ kq from fr607) kq (by rw [← e']; exact h)
      · omega
    refine W.sapR (e := 38) (size := 4) (base := w.heap.size) (v := .slice (some ⟨g608, 0, none⟩) ((0 + k2) + 1) cap609) (A := (sFrom A c k2 4)) (m := (n - k2)) (c := (c - k2)) s615 rfl rfl rfl rfl kk kk kk ho611 (Rd.fromP (Rk ha (Sb c45 s615 nkk)) (by omega) (hf).le) (Fm.from (size := 4) hf (by omega)) (pipes_one _) (by omega) (by have := ((Sb c45 s615 nkk)).size; omega) (.inr fr621) (fun A622 cap623 w624 ho625 hg626 hat627 s628 => ?_)
    apply F.nx
    have nb629 : Nb b2 (.slice A622 (((0 + k2) + 1) + (n - k2)) cap623) := nb_app2 nb616 (Nat.lt_of_lt_of_le (blk_lt x6) (s615).size) hat627
    have nb630 : Nb b9 (.slice A622 (((0 + k2) + 1) + (n - k2)) cap623) := nb_app2 nb617 (Nat.lt_of_lt_of_le (blk_lt x13) (s615).size) hat627
    have nb631 : Nb b17 (.slice A622 (((0 + k2) + 1) + (n - k2)) cap623) := nb_app2 nb618 (Nat.lt_of_lt_of_le (blk_lt x21) (s615).size) hat627
    have nb632 : Nb b503 (.slice A622 (((0 + k2) + 1) + (n - k2)) cap623) := nb_app2 nb619 (blk_lt x507) hat627
    have x507 := (hg626.block _ (blk_lt x507) nb619).trans x507
    have ho625 := own_joinP ho625
    have fr634 : ∀ kq, (.slice A622 (((0 + k2) + 1) + (n - k2)) cap623 : Value).ownBlock = some kq → wlj1.heap.size ≤ kq := fun kq e => by
      have hs := (s615).size
      rcases hat627 with h | h
      · exact (show ∀ kq, Value.ownBlock _ = some kq → wlj1.heap.size ≤ kq from fr621) kq (h.symm.trans e)
      · have := Option.some.inj (h.symm.trans e); omega
    refine Fq (.agg #[.int .i64 m, .slice A622 (((0 + k2) + 1) + (n - k2)) cap623]) (r_build rfl (vs := [(0, .int .i64 m), (1, .slice A622 (((0 + k2) + 1) + (n - k2)) cap623)]) kk kk) ?_
    refine W.ss (v := .agg #[.int .i64 m, .slice A622 (((0 + k2) + 1) + (n - k2)) cap623]) (j := 0) (news := [.int .i64 m, .slice A622 (((0 + k2) + 1) + (n - k2)) cap623]) (cs' := #[.int .i64 m, .slice A622 (((0 + k2) + 1) + (n - k2)) cap623]) s628 rfl kk rfl rfl kk kk x507 kk kk (by simp) kk kk (.inr (Nl (s77).size (Nat.le_of_eq hb505))) (fun w635 g636 x637 s638 => ?_)
    have ho639 := own_grown ho625 g636 (fun j e1 e2 => by cases e2; exact nb632 e1.symm)
    apply F.es
    have x6 := Sk s638 x6 onn
    have x13 := Sk s638 x13 onn
    have x21 := Sk s638 x21 onn
    have c640 := (Sb c45 s638 nkk)
    exact h10 0 _ _ ⟨A622, (((0 + k2) + 1) + (n - k2)), cap623, b503, (fun iU9 => lk [(2, .pointer (some ⟨b2, 0, none⟩)), (3, .pointer (some ⟨b9, 0, none⟩)), (4, .pointer (some ⟨b17, 0, none⟩)), (5, .bool false), (6, .int .i64 (k2 : Int)), (7, .pointer (some ⟨b503, 0, none⟩)), (37, .pointer (some ⟨b2, 0, none⟩)), (38, .int .i64 m), (39, .slice (some ⟨b72, 0, none⟩) 0 0), (40, .pointer (some ⟨b2, 1, none⟩)), (41, .slice A n c), (42, .int .i64 (k2 : Int)), (43, .slice A k2 c), (44, .slice A595 (0 + k2) cap596), (45, .agg #[.int .i64 x.id, .int .i64 x.fr, .int .i64 x.to, .int .i64 x.sz]), (46, .slice (some ⟨b577, 0, none⟩) 1 1), (47, .slice (some ⟨g608, 0, none⟩) ((0 + k2) + 1) cap609), (48, .pointer (some ⟨b2, 1, none⟩)), (49, .slice A n c), (50, .int .i64 (k2 : Int)), (51, .slice (sFrom A c k2 4) (n - k2) (c - k2)), (52, .slice A622 (((0 + k2) + 1) + (n - k2)) cap623), (53, .agg #[.int .i64 m, .slice A622 (((0 + k2) + 1) + (n - k2)) cap623])] iU9 (Uj1 iU9)), kk, x6, x13, x21, x637, lo509, ho639, by omega, nb629, nb630, nb631, nb632, ne510, ne511, ne512, c640⟩
   ·refine W.sn (fun b => .slice (some ⟨b, 0, none⟩) 1 1) #[.int .i64 x.id, .int .i64 x.fr, .int .i64 x.to, .int .i64 x.sz] 38 s71 rfl kk rfl (fun _ => by kernel_rfl) (fun b641 w642 hb643 k644 x645 s646 => ?_)
    apply F.nx
    have lo647 : w.heap.size ≤ b641 := Nl ((Sb c45 s71 nkk)).size (Nat.le_of_eq hb643)
    refine W.sbr ?_ ?_
    ·refine W.sn (fun b => .slice (some ⟨b, 0, none⟩) 0 0) #[] 38 s646 rfl kk rfl (fun _ => by kernel_rfl) (fun b651 w652 hb653 k654 x655 s656 => ?_)
     apply F.nx
     have lo657 : w.heap.size ≤ b651 := Nl ((Sb c45 s646 nkk)).size (Nat.le_of_eq hb653)
     have ne658 : b2 ≠ b651 := Nat.ne_of_lt (Nat.lt_of_lt_of_eq (Nat.lt_of_lt_of_le (blk_lt x6) (s646).size) hb653)
     have ne659 : b9 ≠ b651 := Nat.ne_of_lt (Nat.lt_of_lt_of_eq (Nat.lt_of_lt_of_le (blk_lt x13) (s646).size) hb653)
     have ne660 : b17 ≠ b651 := Nat.ne_of_lt (Nat.lt_of_lt_of_eq (Nat.lt_of_lt_of_le (blk_lt x21) (s646).size) hb653)
     have ne661 : b641 ≠ b651 := Nat.ne_of_lt (Nat.lt_of_lt_of_eq (blk_lt x645) hb653)
     have x645 := (k654.block _ (blk_lt x645)).trans x645
     refine W.sbr ?_ ?_
     ·have ho662 := own_empty (base := w.heap.size) (size := 4) x655 lo657
      replace ho662 : World.ownsRow _ _ _ _ _ _ (pipesV []) := ho662
      have nb663 : Nb b2 (.slice (some ⟨b651, 0, none⟩) 0 0) := nb_new ne658
      have nb664 : Nb b9 (.slice (some ⟨b651, 0, none⟩) 0 0) := nb_new ne659
      have nb665 : Nb b17 (.slice (some ⟨b651, 0, none⟩) 0 0) := nb_new ne660
      have nb666 : Nb b641 (.slice (some ⟨b651, 0, none⟩) 0 0) := nb_new ne661
      replace ho662 : World.ownsRow _ _ _ _ _ _ (pipesV []) := ho662
      refine W.sapR (e := 38) (size := 4) (base := w.heap.size) (v := .slice (some ⟨b651, 0, none⟩) 0 0) (A := A) (m := k2) (c := c) s656 rfl rfl rfl rfl kk kk kk ho662 (Rd.toP (Rk ha (Sb c45 s656 nkk)) (by omega)) (Fm.to hf (by have := (hf).le; omega)) (pipes_one _) (by omega) (by have := ((Sb c45 s656 nkk)).size; omega) (.inr (fun kq e => by have := (s646).size; have := hb653; have e' := Option.some.inj e; simp at e'; omega)) (fun A667 cap668 w669 ho670 hg671 hat672 s673 => ?_)
      apply F.nx
      have nb674 : Nb b2 (.slice A667 (0 + k2) cap668) := nb_app2 nb663 (Nat.lt_of_lt_of_le (blk_lt x6) (s656).size) hat672
      have nb675 : Nb b9 (.slice A667 (0 + k2) cap668) := nb_app2 nb664 (Nat.lt_of_lt_of_le (blk_lt x13) (s656).size) hat672
      have nb676 : Nb b17 (.slice A667 (0 + k2) cap668) := nb_app2 nb665 (Nat.lt_of_lt_of_le (blk_lt x21) (s656).size) hat672
      have nb677 : Nb b641 (.slice A667 (0 + k2) cap668) := nb_app2 nb666 (blk_lt x645) hat672
      have x645 := (hg671.block _ (blk_lt x645) nb666).trans x645
      have ho670 := own_joinP ho670
      have fr678 : ∀ kq, (.slice A667 (0 + k2) cap668 : Value).ownBlock = some kq → wlj1.heap.size ≤ kq := fun kq e => by
        have hs := (s656).size
        rcases hat672 with h | h
        · exact (show ∀ kq, Value.ownBlock _ = some kq → wlj1.heap.size ≤ kq from (fun kq e => by have := (s646).size; have := hb653; have e' := Option.some.inj e; simp at e'; omega)) kq (h.symm.trans e)
        · have := Option.some.inj (h.symm.trans e); omega
      refine W.sbr ?_ ?_
      ·refine W.sap (e := 38) (size := 4) (base := w.heap.size) (m := 1) (v := .slice A667 (0 + k2) cap668) (c := 1) s673 rfl rfl rfl rfl kk kk kk ho670 x645 kk kk (by omega) (by omega) (by have := ((Sb c45 s673 nkk)).size; omega) (.inr fr678) (fun g679 cap680 w681 ho682 hg683 hat684 hlt685 s686 => ?_)
       apply F.nx
       have nb687 : Nb b2 (.slice (some ⟨g679, 0, none⟩) ((0 + k2) + 1) cap680) := nb_app nb674 (Nat.lt_of_lt_of_le (blk_lt x6) (s673).size) hat684
       have nb688 : Nb b9 (.slice (some ⟨g679, 0, none⟩) ((0 + k2) + 1) cap680) := nb_app nb675 (Nat.lt_of_lt_of_le (blk_lt x13) (s673).size) hat684
       have nb689 : Nb b17 (.slice (some ⟨g679, 0, none⟩) ((0 + k2) + 1) cap680) := nb_app nb676 (Nat.lt_of_lt_of_le (blk_lt x21) (s673).size) hat684
       have nb690 : Nb b641 (.slice (some ⟨g679, 0, none⟩) ((0 + k2) + 1) cap680) := nb_app nb677 (blk_lt x645) hat684
       have x645 := (hg683.block _ (blk_lt x645) nb677).trans x645
       have ho682 := own_snocP (x := x) ho682
       have fr691 : ∀ kq, (.slice (some ⟨g679, 0, none⟩) ((0 + k2) + 1) cap680 : Value).ownBlock = some kq → wlj1.heap.size ≤ kq := fun kq e => by
         have hs := (s673).size
         have e' : g679 = kq := by simpa [Value.ownBlock] using e
         rcases hat684 with h | h
         · exact (show ∀ kq, Value.ownBlock _ = some kq → wlj1.heap.size ≤ kq from fr678) kq (by rw [← e']; exact h)
         · omega
       refine W.sbr ?_ ?_
       ·refine W.sapR (e := 38) (size := 4) (base := w.heap.size) (v := .slice (some ⟨g679, 0, none⟩) ((0 + k2) + 1) cap680) (A := (sFrom A c k2 4)) (m := (n - k2)) (c := (c - k2)) s686 rfl rfl rfl rfl kk kk kk ho682 (Rd.fromP (Rk ha (Sb c45 s686 nkk)) (by omega) (hf).le) (Fm.from (size := 4) hf (by omega)) (pipes_one _) (by omega) (by have := ((Sb c45 s686 nkk)).size; omega) (.inr fr691) (fun A692 cap693 w694 ho695 hg696 hat697 s698 => ?_)
        apply F.nx
        have nb699 : Nb b2 (.slice A692 (((0 + k2) + 1) + (n - k2)) cap693) := nb_app2 nb687 (Nat.lt_of_lt_of_le (blk_lt x6) (s686).size) hat697
        have nb700 : Nb b9 (.slice A692 (((0 + k2) + 1) + (n - k2)) cap693) := nb_app2 nb688 (Nat.lt_of_lt_of_le (blk_lt x13) (s686).size) hat697
        have nb701 : Nb b17 (.slice A692 (((0 + k2) + 1) + (n - k2)) cap693) := nb_app2 nb689 (Nat.lt_of_lt_of_le (blk_lt x21) (s686).size) hat697
        have x645 := (hg696.block _ (blk_lt x645) nb690).trans x645
        have ho695 := own_joinP ho695
        have fr703 : ∀ kq, (.slice A692 (((0 + k2) + 1) + (n - k2)) cap693 : Value).ownBlock = some kq → wlj1.heap.size ≤ kq := fun kq e => by
          have hs := (s686).size
          rcases hat697 with h | h
          · exact (show ∀ kq, Value.ownBlock _ = some kq → wlj1.heap.size ≤ kq from fr691) kq (h.symm.trans e)
          · have := Option.some.inj (h.symm.trans e); omega
        refine Fq (.agg #[.int .i64 m, .slice A692 (((0 + k2) + 1) + (n - k2)) cap693]) (r_build rfl (vs := [(0, .int .i64 m), (1, .slice A692 (((0 + k2) + 1) + (n - k2)) cap693)]) kk kk) ?_
        refine W.sn (fun b => .pointer (some ⟨b, 0, none⟩)) #[.int .i64 0, .slice none 0 0] 24 s698 rfl kk rfl (fun _ => by kernel_rfl) (fun b704 w705 hb706 k707 x708 s709 => ?_)
        apply F.nx
        have lo710 : w.heap.size ≤ b704 := Nl ((Sb c45 s698 nkk)).size (Nat.le_of_eq hb706)
        have ne711 : b2 ≠ b704 := Nat.ne_of_lt (Nat.lt_of_lt_of_eq (Nat.lt_of_lt_of_le (blk_lt x6) (s698).size) hb706)
        have ne712 : b9 ≠ b704 := Nat.ne_of_lt (Nat.lt_of_lt_of_eq (Nat.lt_of_lt_of_le (blk_lt x13) (s698).size) hb706)
        have ne713 : b17 ≠ b704 := Nat.ne_of_lt (Nat.lt_of_lt_of_eq (Nat.lt_of_lt_of_le (blk_lt x21) (s698).size) hb706)
        have ne714 : b641 ≠ b704 := Nat.ne_of_lt (Nat.lt_of_lt_of_eq (blk_lt x645) hb706)
        have nb715 : Nb b704 (.slice A692 (((0 + k2) + 1) + (n - k2)) cap693) := nb_hi ho695 (Nat.le_of_eq hb706)
        have x645 := (k707.block _ (blk_lt x645)).trans x645
        have ho716 := own_kept ho695 k707
        refine W.ss (v := .agg #[.int .i64 m, .slice A692 (((0 + k2) + 1) + (n - k2)) cap693]) (j := 0) (news := [.int .i64 m, .slice A692 (((0 + k2) + 1) + (n - k2)) cap693]) (cs' := #[.int .i64 m, .slice A692 (((0 + k2) + 1) + (n - k2)) cap693]) s709 rfl kk rfl rfl kk kk x708 kk kk (by simp) kk kk (.inr (Nl (s698).size (Nat.le_of_eq hb706))) (fun w717 g718 x719 s720 => ?_)
        have x645 := (g718.block _ (blk_lt x645) (fun e9 => ne714 (Option.some.inj e9))).trans x645
        have ho721 := own_grown ho716 g718 (fun j e1 e2 => by cases e2; exact nb715 e1.symm)
        apply F.es
        have x6 := Sk s720 x6 onn
        have x13 := Sk s720 x13 onn
        have x21 := Sk s720 x21 onn
        have c722 := (Sb c45 s720 nkk)
        exact h10 0 _ _ ⟨A692, (((0 + k2) + 1) + (n - k2)), cap693, b704, (fun iU9 => lk [(2, .pointer (some ⟨b2, 0, none⟩)), (3, .pointer (some ⟨b9, 0, none⟩)), (4, .pointer (some ⟨b17, 0, none⟩)), (5, .bool false), (6, .int .i64 (k2 : Int)), (7, .pointer (some ⟨b704, 0, none⟩)), (37, .pointer (some ⟨b2, 0, none⟩)), (38, .int .i64 m), (39, .slice (some ⟨b651, 0, none⟩) 0 0), (40, .pointer (some ⟨b2, 1, none⟩)), (41, .slice A n c), (42, .int .i64 (k2 : Int)), (43, .slice A k2 c), (44, .slice A667 (0 + k2) cap668), (45, .agg #[.int .i64 x.id, .int .i64 x.fr, .int .i64 x.to, .int .i64 x.sz]), (46, .slice (some ⟨b641, 0, none⟩) 1 1), (47, .slice (some ⟨g679, 0, none⟩) ((0 + k2) + 1) cap680), (48, .pointer (some ⟨b2, 1, none⟩)), (49, .slice A n c), (50, .int .i64 (k2 : Int)), (51, .slice (sFrom A c k2 4) (n - k2) (c - k2)), (52, .slice A692 (((0 + k2) + 1) + (n - k2)) cap693), (53, .agg #[.int .i64 m, .slice A692 (((0 + k2) + 1) + (n - k2)) cap693])] iU9 (Uj1 iU9)), kk, x6, x13, x21, x719, lo710, ho721, by omega, nb699, nb700, nb701, nb715, ne711, ne712, ne713, c722⟩
       refine W.sn (fun b => .pointer (some ⟨b, 0, none⟩)) #[.int .i64 0, .slice none 0 0] 24 s686 rfl kk rfl (fun _ => by kernel_rfl) (fun b723 w724 hb725 k726 x727 s728 => ?_)
       apply F.nx
       have lo729 : w.heap.size ≤ b723 := Nl ((Sb c45 s686 nkk)).size (Nat.le_of_eq hb725)
       have ne730 : b2 ≠ b723 := Nat.ne_of_lt (Nat.lt_of_lt_of_eq (Nat.lt_of_lt_of_le (blk_lt x6) (s686).size) hb725)
       have ne731 : b9 ≠ b723 := Nat.ne_of_lt (Nat.lt_of_lt_of_eq (Nat.lt_of_lt_of_le (blk_lt x13) (s686).size) hb725)
       have ne732 : b17 ≠ b723 := Nat.ne_of_lt (Nat.lt_of_lt_of_eq (Nat.lt_of_lt_of_le (blk_lt x21) (s686).size) hb725)
       have ne733 : b641 ≠ b723 := Nat.ne_of_lt (Nat.lt_of_lt_of_eq (blk_lt x645) hb725)
       have nb734 : Nb b723 (.slice (some ⟨g679, 0, none⟩) ((0 + k2) + 1) cap680) := nb_hi ho682 (Nat.le_of_eq hb725)
       have x645 := (k726.block _ (blk_lt x645)).trans x645
       have ho735 := own_kept ho682 k726
       refine W.sapR (e := 38) (size := 4) (base := w.heap.size) (v := .slice (some ⟨g679, 0, none⟩) ((0 + k2) + 1) cap680) (A := (sFrom A c k2 4)) (m := (n - k2)) (c := (c - k2)) s728 rfl rfl rfl rfl kk kk kk ho735 (Rd.fromP (Rk ha (Sb c45 s728 nkk)) (by omega) (hf).le) (Fm.from (size := 4) hf (by omega)) (pipes_one _) (by omega) (by have := ((Sb c45 s728 nkk)).size; omega) (.inr fr691) (fun A736 cap737 w738 ho739 hg740 hat741 s742 => ?_)
       apply F.nx
       have nb743 : Nb b2 (.slice A736 (((0 + k2) + 1) + (n - k2)) cap737) := nb_app2 nb687 (Nat.lt_of_lt_of_le (blk_lt x6) (s728).size) hat741
       have nb744 : Nb b9 (.slice A736 (((0 + k2) + 1) + (n - k2)) cap737) := nb_app2 nb688 (Nat.lt_of_lt_of_le (blk_lt x13) (s728).size) hat741
       have nb745 : Nb b17 (.slice A736 (((0 + k2) + 1) + (n - k2)) cap737) := nb_app2 nb689 (Nat.lt_of_lt_of_le (blk_lt x21) (s728).size) hat741
       have x645 := (hg740.block _ (blk_lt x645) nb690).trans x645
       have nb747 : Nb b723 (.slice A736 (((0 + k2) + 1) + (n - k2)) cap737) := nb_app2 nb734 (blk_lt x727) hat741
       have x727 := (hg740.block _ (blk_lt x727) nb734).trans x727
       have ho739 := own_joinP ho739
       have fr748 : ∀ kq, (.slice A736 (((0 + k2) + 1) + (n - k2)) cap737 : Value).ownBlock = some kq → wlj1.heap.size ≤ kq := fun kq e => by
         have hs := (s728).size
         rcases hat741 with h | h
         · exact (show ∀ kq, Value.ownBlock _ = some kq → wlj1.heap.size ≤ kq from fr691) kq (h.symm.trans e)
         · have := Option.some.inj (h.symm.trans e); omega
       refine Fq (.agg #[.int .i64 m, .slice A736 (((0 + k2) + 1) + (n - k2)) cap737]) (r_build rfl (vs := [(0, .int .i64 m), (1, .slice A736 (((0 + k2) + 1) + (n - k2)) cap737)]) kk kk) ?_
       refine W.ss (v := .agg #[.int .i64 m, .slice A736 (((0 + k2) + 1) + (n - k2)) cap737]) (j := 0) (news := [.int .i64 m, .slice A736 (((0 + k2) + 1) + (n - k2)) cap737]) (cs' := #[.int .i64 m, .slice A736 (((0 + k2) + 1) + (n - k2)) cap737]) s742 rfl kk rfl rfl kk kk x727 kk kk (by simp) kk kk (.inr (Nl (s686).size (Nat.le_of_eq hb725))) (fun w749 g750 x751 s752 => ?_)
       have x645 := (g750.block _ (blk_lt x645) (fun e9 => ne733 (Option.some.inj e9))).trans x645
       have ho753 := own_grown ho739 g750 (fun j e1 e2 => by cases e2; exact nb747 e1.symm)
       apply F.es
       have x6 := Sk s752 x6 onn
       have x13 := Sk s752 x13 onn
       have x21 := Sk s752 x21 onn
       have c754 := (Sb c45 s752 nkk)
       exact h10 0 _ _ ⟨A736, (((0 + k2) + 1) + (n - k2)), cap737, b723, (fun iU9 => lk [(2, .pointer (some ⟨b2, 0, none⟩)), (3, .pointer (some ⟨b9, 0, none⟩)), (4, .pointer (some ⟨b17, 0, none⟩)), (5, .bool false), (6, .int .i64 (k2 : Int)), (7, .pointer (some ⟨b723, 0, none⟩)), (37, .pointer (some ⟨b2, 0, none⟩)), (38, .int .i64 m), (39, .slice (some ⟨b651, 0, none⟩) 0 0), (40, .pointer (some ⟨b2, 1, none⟩)), (41, .slice A n c), (42, .int .i64 (k2 : Int)), (43, .slice A k2 c), (44, .slice A667 (0 + k2) cap668), (45, .agg #[.int .i64 x.id, .int .i64 x.fr, .int .i64 x.to, .int .i64 x.sz]), (46, .slice (some ⟨b641, 0, none⟩) 1 1), (47, .slice (some ⟨g679, 0, none⟩) ((0 + k2) + 1) cap680), (48, .pointer (some ⟨b2, 1, none⟩)), (49, .slice A n c), (50, .int .i64 (k2 : Int)), (51, .slice (sFrom A c k2 4) (n - k2) (c - k2)), (52, .slice A736 (((0 + k2) + 1) + (n - k2)) cap737), (53, .agg #[.int .i64 m, .slice A736 (((0 + k2) + 1) + (n - k2)) cap737])] iU9 (Uj1 iU9)), kk, x6, x13, x21, x751, lo729, ho753, by omega, nb743, nb744, nb745, nb747, ne730, ne731, ne732, c754⟩
      refine W.sn (fun b => .pointer (some ⟨b, 0, none⟩)) #[.int .i64 0, .slice none 0 0] 24 s673 rfl kk rfl (fun _ => by kernel_rfl) (fun b755 w756 hb757 k758 x759 s760 => ?_)
      apply F.nx
      have lo761 : w.heap.size ≤ b755 := Nl ((Sb c45 s673 nkk)).size (Nat.le_of_eq hb757)
      have ne762 : b2 ≠ b755 := Nat.ne_of_lt (Nat.lt_of_lt_of_eq (Nat.lt_of_lt_of_le (blk_lt x6) (s673).size) hb757)
      have ne763 : b9 ≠ b755 := Nat.ne_of_lt (Nat.lt_of_lt_of_eq (Nat.lt_of_lt_of_le (blk_lt x13) (s673).size) hb757)
      have ne764 : b17 ≠ b755 := Nat.ne_of_lt (Nat.lt_of_lt_of_eq (Nat.lt_of_lt_of_le (blk_lt x21) (s673).size) hb757)
      have ne765 : b641 ≠ b755 := Nat.ne_of_lt (Nat.lt_of_lt_of_eq (blk_lt x645) hb757)
      have nb766 : Nb b755 (.slice A667 (0 + k2) cap668) := nb_hi ho670 (Nat.le_of_eq hb757)
      have x645 := (k758.block _ (blk_lt x645)).trans x645
      have ho767 := own_kept ho670 k758
      refine W.sap (e := 38) (size := 4) (base := w.heap.size) (m := 1) (v := .slice A667 (0 + k2) cap668) (c := 1) s760 rfl rfl rfl rfl kk kk kk ho767 x645 kk kk (by omega) (by omega) (by have := ((Sb c45 s760 nkk)).size; omega) (.inr fr678) (fun g768 cap769 w770 ho771 hg772 hat773 hlt774 s775 => ?_)
      apply F.nx
      have nb776 : Nb b2 (.slice (some ⟨g768, 0, none⟩) ((0 + k2) + 1) cap769) := nb_app nb674 (Nat.lt_of_lt_of_le (blk_lt x6) (s760).size) hat773
      have nb777 : Nb b9 (.slice (some ⟨g768, 0, none⟩) ((0 + k2) + 1) cap769) := nb_app nb675 (Nat.lt_of_lt_of_le (blk_lt x13) (s760).size) hat773
      have nb778 : Nb b17 (.slice (some ⟨g768, 0, none⟩) ((0 + k2) + 1) cap769) := nb_app nb676 (Nat.lt_of_lt_of_le (blk_lt x21) (s760).size) hat773
      have nb779 : Nb b641 (.slice (some ⟨g768, 0, none⟩) ((0 + k2) + 1) cap769) := nb_app nb677 (blk_lt x645) hat773
      have x645 := (hg772.block _ (blk_lt x645) nb677).trans x645
      have nb780 : Nb b755 (.slice (some ⟨g768, 0, none⟩) ((0 + k2) + 1) cap769) := nb_app nb766 (blk_lt x759) hat773
      have x759 := (hg772.block _ (blk_lt x759) nb766).trans x759
      have ho771 := own_snocP (x := x) ho771
      have fr781 : ∀ kq, (.slice (some ⟨g768, 0, none⟩) ((0 + k2) + 1) cap769 : Value).ownBlock = some kq → wlj1.heap.size ≤ kq := fun kq e => by
        have hs := (s760).size
        have e' : g768 = kq := by simpa [Value.ownBlock] using e
        rcases hat773 with h | h
        · exact (show ∀ kq, Value.ownBlock _ = some kq → wlj1.heap.size ≤ kq from fr678) kq (by rw [← e']; exact h)
        · omega
      refine W.sapR (e := 38) (size := 4) (base := w.heap.size) (v := .slice (some ⟨g768, 0, none⟩) ((0 + k2) + 1) cap769) (A := (sFrom A c k2 4)) (m := (n - k2)) (c := (c - k2)) s775 rfl rfl rfl rfl kk kk kk ho771 (Rd.fromP (Rk ha (Sb c45 s775 nkk)) (by omega) (hf).le) (Fm.from (size := 4) hf (by omega)) (pipes_one _) (by omega) (by have := ((Sb c45 s775 nkk)).size; omega) (.inr fr781) (fun A782 cap783 w784 ho785 hg786 hat787 s788 => ?_)
      apply F.nx
      have nb789 : Nb b2 (.slice A782 (((0 + k2) + 1) + (n - k2)) cap783) := nb_app2 nb776 (Nat.lt_of_lt_of_le (blk_lt x6) (s775).size) hat787
      have nb790 : Nb b9 (.slice A782 (((0 + k2) + 1) + (n - k2)) cap783) := nb_app2 nb777 (Nat.lt_of_lt_of_le (blk_lt x13) (s775).size) hat787
      have nb791 : Nb b17 (.slice A782 (((0 + k2) + 1) + (n - k2)) cap783) := nb_app2 nb778 (Nat.lt_of_lt_of_le (blk_lt x21) (s775).size) hat787
      have x645 := (hg786.block _ (blk_lt x645) nb779).trans x645
      have nb793 : Nb b755 (.slice A782 (((0 + k2) + 1) + (n - k2)) cap783) := nb_app2 nb780 (blk_lt x759) hat787
      have x759 := (hg786.block _ (blk_lt x759) nb780).trans x759
      have ho785 := own_joinP ho785
      have fr794 : ∀ kq, (.slice A782 (((0 + k2) + 1) + (n - k2)) cap783 : Value).ownBlock = some kq → wlj1.heap.size ≤ kq := fun kq e => by
        have hs := (s775).size
        rcases hat787 with h | h
        · exact (show ∀ kq, Value.ownBlock _ = some kq → wlj1.heap.size ≤ kq from fr781) kq (h.symm.trans e)
        · have := Option.some.inj (h.symm.trans e); omega
      refine Fq (.agg #[.int .i64 m, .slice A782 (((0 + k2) + 1) + (n - k2)) cap783]) (r_build rfl (vs := [(0, .int .i64 m), (1, .slice A782 (((0 + k2) + 1) + (n - k2)) cap783)]) kk kk) ?_
      refine W.ss (v := .agg #[.int .i64 m, .slice A782 (((0 + k2) + 1) + (n - k2)) cap783]) (j := 0) (news := [.int .i64 m, .slice A782 (((0 + k2) + 1) + (n - k2)) cap783]) (cs' := #[.int .i64 m, .slice A782 (((0 + k2) + 1) + (n - k2)) cap783]) s788 rfl kk rfl rfl kk kk x759 kk kk (by simp) kk kk (.inr (Nl (s673).size (Nat.le_of_eq hb757))) (fun w795 g796 x797 s798 => ?_)
      have x645 := (g796.block _ (blk_lt x645) (fun e9 => ne765 (Option.some.inj e9))).trans x645
      have ho799 := own_grown ho785 g796 (fun j e1 e2 => by cases e2; exact nb793 e1.symm)
      apply F.es
      have x6 := Sk s798 x6 onn
      have x13 := Sk s798 x13 onn
      have x21 := Sk s798 x21 onn
      have c800 := (Sb c45 s798 nkk)
      exact h10 0 _ _ ⟨A782, (((0 + k2) + 1) + (n - k2)), cap783, b755, (fun iU9 => lk [(2, .pointer (some ⟨b2, 0, none⟩)), (3, .pointer (some ⟨b9, 0, none⟩)), (4, .pointer (some ⟨b17, 0, none⟩)), (5, .bool false), (6, .int .i64 (k2 : Int)), (7, .pointer (some ⟨b755, 0, none⟩)), (37, .pointer (some ⟨b2, 0, none⟩)), (38, .int .i64 m), (39, .slice (some ⟨b651, 0, none⟩) 0 0), (40, .pointer (some ⟨b2, 1, none⟩)), (41, .slice A n c), (42, .int .i64 (k2 : Int)), (43, .slice A k2 c), (44, .slice A667 (0 + k2) cap668), (45, .agg #[.int .i64 x.id, .int .i64 x.fr, .int .i64 x.to, .int .i64 x.sz]), (46, .slice (some ⟨b641, 0, none⟩) 1 1), (47, .slice (some ⟨g768, 0, none⟩) ((0 + k2) + 1) cap769), (48, .pointer (some ⟨b2, 1, none⟩)), (49, .slice A n c), (50, .int .i64 (k2 : Int)), (51, .slice (sFrom A c k2 4) (n - k2) (c - k2)), (52, .slice A782 (((0 + k2) + 1) + (n - k2)) cap783), (53, .agg #[.int .i64 m, .slice A782 (((0 + k2) + 1) + (n - k2)) cap783])] iU9 (Uj1 iU9)), kk, x6, x13, x21, x797, lo761, ho799, by omega, nb789, nb790, nb791, nb793, ne762, ne763, ne764, c800⟩
     refine W.sn (fun b => .pointer (some ⟨b, 0, none⟩)) #[.int .i64 0, .slice none 0 0] 24 s656 rfl kk rfl (fun _ => by kernel_rfl) (fun b801 w802 hb803 k804 x805 s806 => ?_)
     apply F.nx
     have lo807 : w.heap.size ≤ b801 := Nl ((Sb c45 s656 nkk)).size (Nat.le_of_eq hb803)
     have ne808 : b2 ≠ b801 := Nat.ne_of_lt (Nat.lt_of_lt_of_eq (Nat.lt_of_lt_of_le (blk_lt x6) (s656).size) hb803)
     have ne809 : b9 ≠ b801 := Nat.ne_of_lt (Nat.lt_of_lt_of_eq (Nat.lt_of_lt_of_le (blk_lt x13) (s656).size) hb803)
     have ne810 : b17 ≠ b801 := Nat.ne_of_lt (Nat.lt_of_lt_of_eq (Nat.lt_of_lt_of_le (blk_lt x21) (s656).size) hb803)
     have ne811 : b641 ≠ b801 := Nat.ne_of_lt (Nat.lt_of_lt_of_eq (blk_lt x645) hb803)
     have ne812 : b651 ≠ b801 := Nat.ne_of_lt (Nat.lt_of_lt_of_eq (blk_lt x655) hb803)
     have x645 := (k804.block _ (blk_lt x645)).trans x645
     have x655 := (k804.block _ (blk_lt x655)).trans x655
     have ho813 := own_empty (base := w.heap.size) (size := 4) x655 lo657
     replace ho813 : World.ownsRow _ _ _ _ _ _ (pipesV []) := ho813
     have nb814 : Nb b2 (.slice (some ⟨b651, 0, none⟩) 0 0) := nb_new ne658
     have nb815 : Nb b9 (.slice (some ⟨b651, 0, none⟩) 0 0) := nb_new ne659
     have nb816 : Nb b17 (.slice (some ⟨b651, 0, none⟩) 0 0) := nb_new ne660
     have nb817 : Nb b641 (.slice (some ⟨b651, 0, none⟩) 0 0) := nb_new ne661
     have nb818 : Nb b801 (.slice (some ⟨b651, 0, none⟩) 0 0) := nb_new (Ne.symm ne812)
     replace ho813 : World.ownsRow _ _ _ _ _ _ (pipesV []) := ho813
     refine W.sapR (e := 38) (size := 4) (base := w.heap.size) (v := .slice (some ⟨b651, 0, none⟩) 0 0) (A := A) (m := k2) (c := c) s806 rfl rfl rfl rfl kk kk kk ho813 (Rd.toP (Rk ha (Sb c45 s806 nkk)) (by omega)) (Fm.to hf (by have := (hf).le; omega)) (pipes_one _) (by omega) (by have := ((Sb c45 s806 nkk)).size; omega) (.inr (fun kq e => by have := (s646).size; have := hb653; have e' := Option.some.inj e; simp at e'; omega)) (fun A819 cap820 w821 ho822 hg823 hat824 s825 => ?_)
     apply F.nx
     have nb826 : Nb b2 (.slice A819 (0 + k2) cap820) := nb_app2 nb814 (Nat.lt_of_lt_of_le (blk_lt x6) (s806).size) hat824
     have nb827 : Nb b9 (.slice A819 (0 + k2) cap820) := nb_app2 nb815 (Nat.lt_of_lt_of_le (blk_lt x13) (s806).size) hat824
     have nb828 : Nb b17 (.slice A819 (0 + k2) cap820) := nb_app2 nb816 (Nat.lt_of_lt_of_le (blk_lt x21) (s806).size) hat824
     have nb829 : Nb b641 (.slice A819 (0 + k2) cap820) := nb_app2 nb817 (blk_lt x645) hat824
     have x645 := (hg823.block _ (blk_lt x645) nb817).trans x645
     have nb830 : Nb b801 (.slice A819 (0 + k2) cap820) := nb_app2 nb818 (blk_lt x805) hat824
     have x805 := (hg823.block _ (blk_lt x805) nb818).trans x805
     have ho822 := own_joinP ho822
     have fr831 : ∀ kq, (.slice A819 (0 + k2) cap820 : Value).ownBlock = some kq → wlj1.heap.size ≤ kq := fun kq e => by
       have hs := (s806).size
       rcases hat824 with h | h
       · exact (show ∀ kq, Value.ownBlock _ = some kq → wlj1.heap.size ≤ kq from (fun kq e => by have := (s646).size; have := hb653; have e' := Option.some.inj e; simp at e'; omega)) kq (h.symm.trans e)
       · have := Option.some.inj (h.symm.trans e); omega
     refine W.sap (e := 38) (size := 4) (base := w.heap.size) (m := 1) (v := .slice A819 (0 + k2) cap820) (c := 1) s825 rfl rfl rfl rfl kk kk kk ho822 x645 kk kk (by omega) (by omega) (by have := ((Sb c45 s825 nkk)).size; omega) (.inr fr831) (fun g832 cap833 w834 ho835 hg836 hat837 hlt838 s839 => ?_)
     apply F.nx
     have nb840 : Nb b2 (.slice (some ⟨g832, 0, none⟩) ((0 + k2) + 1) cap833) := nb_app nb826 (Nat.lt_of_lt_of_le (blk_lt x6) (s825).size) hat837
     have nb841 : Nb b9 (.slice (some ⟨g832, 0, none⟩) ((0 + k2) + 1) cap833) := nb_app nb827 (Nat.lt_of_lt_of_le (blk_lt x13) (s825).size) hat837
     have nb842 : Nb b17 (.slice (some ⟨g832, 0, none⟩) ((0 + k2) + 1) cap833) := nb_app nb828 (Nat.lt_of_lt_of_le (blk_lt x21) (s825).size) hat837
     have nb843 : Nb b641 (.slice (some ⟨g832, 0, none⟩) ((0 + k2) + 1) cap833) := nb_app nb829 (blk_lt x645) hat837
     have x645 := (hg836.block _ (blk_lt x645) nb829).trans x645
     have nb844 : Nb b801 (.slice (some ⟨g832, 0, none⟩) ((0 + k2) + 1) cap833) := nb_app nb830 (blk_lt x805) hat837
     have x805 := (hg836.block _ (blk_lt x805) nb830).trans x805
     have ho835 := own_snocP (x := x) ho835
     have fr845 : ∀ kq, (.slice (some ⟨g832, 0, none⟩) ((0 + k2) + 1) cap833 : Value).ownBlock = some kq → wlj1.heap.size ≤ kq := fun kq e => by
       have hs := (s825).size
       have e' : g832 = kq := by simpa [Value.ownBlock] using e
       rcases hat837 with h | h
       · exact (show ∀ kq, Value.ownBlock _ = some kq → wlj1.heap.size ≤ kq from fr831) kq (by rw [← e']; exact h)
       · omega
     refine W.sapR (e := 38) (size := 4) (base := w.heap.size) (v := .slice (some ⟨g832, 0, none⟩) ((0 + k2) + 1) cap833) (A := (sFrom A c k2 4)) (m := (n - k2)) (c := (c - k2)) s839 rfl rfl rfl rfl kk kk kk ho835 (Rd.fromP (Rk ha (Sb c45 s839 nkk)) (by omega) (hf).le) (Fm.from (size := 4) hf (by omega)) (pipes_one _) (by omega) (by have := ((Sb c45 s839 nkk)).size; omega) (.inr fr845) (fun A846 cap847 w848 ho849 hg850 hat851 s852 => ?_)
     apply F.nx
     have nb853 : Nb b2 (.slice A846 (((0 + k2) + 1) + (n - k2)) cap847) := nb_app2 nb840 (Nat.lt_of_lt_of_le (blk_lt x6) (s839).size) hat851
     have nb854 : Nb b9 (.slice A846 (((0 + k2) + 1) + (n - k2)) cap847) := nb_app2 nb841 (Nat.lt_of_lt_of_le (blk_lt x13) (s839).size) hat851
     have nb855 : Nb b17 (.slice A846 (((0 + k2) + 1) + (n - k2)) cap847) := nb_app2 nb842 (Nat.lt_of_lt_of_le (blk_lt x21) (s839).size) hat851
     have x645 := (hg850.block _ (blk_lt x645) nb843).trans x645
     have nb857 : Nb b801 (.slice A846 (((0 + k2) + 1) + (n - k2)) cap847) := nb_app2 nb844 (blk_lt x805) hat851
     have x805 := (hg850.block _ (blk_lt x805) nb844).trans x805
     have ho849 := own_joinP ho849
     have fr858 : ∀ kq, (.slice A846 (((0 + k2) + 1) + (n - k2)) cap847 : Value).ownBlock = some kq → wlj1.heap.size ≤ kq := fun kq e => by
       have hs := (s839).size
       rcases hat851 with h | h
       · exact (show ∀ kq, Value.ownBlock _ = some kq → wlj1.heap.size ≤ kq from fr845) kq (h.symm.trans e)
       · have := Option.some.inj (h.symm.trans e); omega
     refine Fq (.agg #[.int .i64 m, .slice A846 (((0 + k2) + 1) + (n - k2)) cap847]) (r_build rfl (vs := [(0, .int .i64 m), (1, .slice A846 (((0 + k2) + 1) + (n - k2)) cap847)]) kk kk) ?_
     refine W.ss (v := .agg #[.int .i64 m, .slice A846 (((0 + k2) + 1) + (n - k2)) cap847]) (j := 0) (news := [.int .i64 m, .slice A846 (((0 + k2) + 1) + (n - k2)) cap847]) (cs' := #[.int .i64 m, .slice A846 (((0 + k2) + 1) + (n - k2)) cap847]) s852 rfl kk rfl rfl kk kk x805 kk kk (by simp) kk kk (.inr (Nl (s656).size (Nat.le_of_eq hb803))) (fun w859 g860 x861 s862 => ?_)
     have x645 := (g860.block _ (blk_lt x645) (fun e9 => ne811 (Option.some.inj e9))).trans x645
     have ho863 := own_grown ho849 g860 (fun j e1 e2 => by cases e2; exact nb857 e1.symm)
     apply F.es
     have x6 := Sk s862 x6 onn
     have x13 := Sk s862 x13 onn
     have x21 := Sk s862 x21 onn
     have c864 := (Sb c45 s862 nkk)
     exact h10 0 _ _ ⟨A846, (((0 + k2) + 1) + (n - k2)), cap847, b801, (fun iU9 => lk [(2, .pointer (some ⟨b2, 0, none⟩)), (3, .pointer (some ⟨b9, 0, none⟩)), (4, .pointer (some ⟨b17, 0, none⟩)), (5, .bool false), (6, .int .i64 (k2 : Int)), (7, .pointer (some ⟨b801, 0, none⟩)), (37, .pointer (some ⟨b2, 0, none⟩)), (38, .int .i64 m), (39, .slice (some ⟨b651, 0, none⟩) 0 0), (40, .pointer (some ⟨b2, 1, none⟩)), (41, .slice A n c), (42, .int .i64 (k2 : Int)), (43, .slice A k2 c), (44, .slice A819 (0 + k2) cap820), (45, .agg #[.int .i64 x.id, .int .i64 x.fr, .int .i64 x.to, .int .i64 x.sz]), (46, .slice (some ⟨b641, 0, none⟩) 1 1), (47, .slice (some ⟨g832, 0, none⟩) ((0 + k2) + 1) cap833), (48, .pointer (some ⟨b2, 1, none⟩)), (49, .slice A n c), (50, .int .i64 (k2 : Int)), (51, .slice (sFrom A c k2 4) (n - k2) (c - k2)), (52, .slice A846 (((0 + k2) + 1) + (n - k2)) cap847), (53, .agg #[.int .i64 m, .slice A846 (((0 + k2) + 1) + (n - k2)) cap847])] iU9 (Uj1 iU9)), kk, x6, x13, x21, x861, lo807, ho863, by omega, nb853, nb854, nb855, nb857, ne808, ne809, ne810, c864⟩
    refine W.sn (fun b => .pointer (some ⟨b, 0, none⟩)) #[.int .i64 0, .slice none 0 0] 24 s646 rfl kk rfl (fun _ => by kernel_rfl) (fun b865 w866 hb867 k868 x869 s870 => ?_)
    apply F.nx
    have lo871 : w.heap.size ≤ b865 := Nl ((Sb c45 s646 nkk)).size (Nat.le_of_eq hb867)
    have ne872 : b2 ≠ b865 := Nat.ne_of_lt (Nat.lt_of_lt_of_eq (Nat.lt_of_lt_of_le (blk_lt x6) (s646).size) hb867)
    have ne873 : b9 ≠ b865 := Nat.ne_of_lt (Nat.lt_of_lt_of_eq (Nat.lt_of_lt_of_le (blk_lt x13) (s646).size) hb867)
    have ne874 : b17 ≠ b865 := Nat.ne_of_lt (Nat.lt_of_lt_of_eq (Nat.lt_of_lt_of_le (blk_lt x21) (s646).size) hb867)
    have x645 := (k868.block _ (blk_lt x645)).trans x645
    refine W.sn (fun b => .slice (some ⟨b, 0, none⟩) 0 0) #[] 38 s870 rfl kk rfl (fun _ => by kernel_rfl) (fun b876 w877 hb878 k879 x880 s881 => ?_)
    apply F.nx
    have lo882 : w.heap.size ≤ b876 := Nl ((Sb c45 s870 nkk)).size (Nat.le_of_eq hb878)
    have ne883 : b2 ≠ b876 := Nat.ne_of_lt (Nat.lt_of_lt_of_eq (Nat.lt_of_lt_of_le (blk_lt x6) (s870).size) hb878)
    have ne884 : b9 ≠ b876 := Nat.ne_of_lt (Nat.lt_of_lt_of_eq (Nat.lt_of_lt_of_le (blk_lt x13) (s870).size) hb878)
    have ne885 : b17 ≠ b876 := Nat.ne_of_lt (Nat.lt_of_lt_of_eq (Nat.lt_of_lt_of_le (blk_lt x21) (s870).size) hb878)
    have ne886 : b641 ≠ b876 := Nat.ne_of_lt (Nat.lt_of_lt_of_eq (blk_lt x645) hb878)
    have ne887 : b865 ≠ b876 := Nat.ne_of_lt (Nat.lt_of_lt_of_eq (blk_lt x869) hb878)
    have x645 := (k879.block _ (blk_lt x645)).trans x645
    have x869 := (k879.block _ (blk_lt x869)).trans x869
    have ho888 := own_empty (base := w.heap.size) (size := 4) x880 lo882
    replace ho888 : World.ownsRow _ _ _ _ _ _ (pipesV []) := ho888
    have nb889 : Nb b2 (.slice (some ⟨b876, 0, none⟩) 0 0) := nb_new ne883
    have nb890 : Nb b9 (.slice (some ⟨b876, 0, none⟩) 0 0) := nb_new ne884
    have nb891 : Nb b17 (.slice (some ⟨b876, 0, none⟩) 0 0) := nb_new ne885
    have nb892 : Nb b641 (.slice (some ⟨b876, 0, none⟩) 0 0) := nb_new ne886
    have nb893 : Nb b865 (.slice (some ⟨b876, 0, none⟩) 0 0) := nb_new ne887
    replace ho888 : World.ownsRow _ _ _ _ _ _ (pipesV []) := ho888
    refine W.sapR (e := 38) (size := 4) (base := w.heap.size) (v := .slice (some ⟨b876, 0, none⟩) 0 0) (A := A) (m := k2) (c := c) s881 rfl rfl rfl rfl kk kk kk ho888 (Rd.toP (Rk ha (Sb c45 s881 nkk)) (by omega)) (Fm.to hf (by have := (hf).le; omega)) (pipes_one _) (by omega) (by have := ((Sb c45 s881 nkk)).size; omega) (.inr (fun kq e => by have := (s870).size; have := hb878; have e' := Option.some.inj e; simp at e'; omega)) (fun A894 cap895 w896 ho897 hg898 hat899 s900 => ?_)
    apply F.nx
    have nb901 : Nb b2 (.slice A894 (0 + k2) cap895) := nb_app2 nb889 (Nat.lt_of_lt_of_le (blk_lt x6) (s881).size) hat899
    have nb902 : Nb b9 (.slice A894 (0 + k2) cap895) := nb_app2 nb890 (Nat.lt_of_lt_of_le (blk_lt x13) (s881).size) hat899
    have nb903 : Nb b17 (.slice A894 (0 + k2) cap895) := nb_app2 nb891 (Nat.lt_of_lt_of_le (blk_lt x21) (s881).size) hat899
    have x645 := (hg898.block _ (blk_lt x645) nb892).trans x645
    have nb905 : Nb b865 (.slice A894 (0 + k2) cap895) := nb_app2 nb893 (blk_lt x869) hat899
    have x869 := (hg898.block _ (blk_lt x869) nb893).trans x869
    have ho897 := own_joinP ho897
    have fr906 : ∀ kq, (.slice A894 (0 + k2) cap895 : Value).ownBlock = some kq → wlj1.heap.size ≤ kq := fun kq e => by
      have hs := (s881).size
      rcases hat899 with h | h
      · exact (show ∀ kq, Value.ownBlock _ = some kq → wlj1.heap.size ≤ kq from (fun kq e => by have := (s870).size; have := hb878; have e' := Option.some.inj e; simp at e'; omega)) kq (h.symm.trans e)
      · have := Option.some.inj (h.symm.trans e); omega
    refine W.sap (e := 38) (size := 4) (base := w.heap.size) (m := 1) (v := .slice A894 (0 + k2) cap895) (c := 1) s900 rfl rfl rfl rfl kk kk kk ho897 x645 kk kk (by omega) (by omega) (by have := ((Sb c45 s900 nkk)).size; omega) (.inr fr906) (fun g907 cap908 w909 ho910 hg911 hat912 hlt913 s914 => ?_)
    apply F.nx
    have nb915 : Nb b2 (.slice (some ⟨g907, 0, none⟩) ((0 + k2) + 1) cap908) := nb_app nb901 (Nat.lt_of_lt_of_le (blk_lt x6) (s900).size) hat912
    have nb916 : Nb b9 (.slice (some ⟨g907, 0, none⟩) ((0 + k2) + 1) cap908) := nb_app nb902 (Nat.lt_of_lt_of_le (blk_lt x13) (s900).size) hat912
    have nb917 : Nb b17 (.slice (some ⟨g907, 0, none⟩) ((0 + k2) + 1) cap908) := nb_app nb903 (Nat.lt_of_lt_of_le (blk_lt x21) (s900).size) hat912
    have nb919 : Nb b865 (.slice (some ⟨g907, 0, none⟩) ((0 + k2) + 1) cap908) := nb_app nb905 (blk_lt x869) hat912
    have x869 := (hg911.block _ (blk_lt x869) nb905).trans x869
    have ho910 := own_snocP (x := x) ho910
    have fr920 : ∀ kq, (.slice (some ⟨g907, 0, none⟩) ((0 + k2) + 1) cap908 : Value).ownBlock = some kq → wlj1.heap.size ≤ kq := fun kq e => by
      have hs := (s900).size
      have e' : g907 = kq := by simpa [Value.ownBlock] using e
      rcases hat912 with h | h
      · exact (show ∀ kq, Value.ownBlock _ = some kq → wlj1.heap.size ≤ kq from fr906) kq (by rw [← e']; exact h)
      · omega
    refine W.sapR (e := 38) (size := 4) (base := w.heap.size) (v := .slice (some ⟨g907, 0, none⟩) ((0 + k2) + 1) cap908) (A := (sFrom A c k2 4)) (m := (n - k2)) (c := (c - k2)) s914 rfl rfl rfl rfl kk kk kk ho910 (Rd.fromP (Rk ha (Sb c45 s914 nkk)) (by omega) (hf).le) (Fm.from (size := 4) hf (by omega)) (pipes_one _) (by omega) (by have := ((Sb c45 s914 nkk)).size; omega) (.inr fr920) (fun A921 cap922 w923 ho924 hg925 hat926 s927 => ?_)
    apply F.nx
    have nb928 : Nb b2 (.slice A921 (((0 + k2) + 1) + (n - k2)) cap922) := nb_app2 nb915 (Nat.lt_of_lt_of_le (blk_lt x6) (s914).size) hat926
    have nb929 : Nb b9 (.slice A921 (((0 + k2) + 1) + (n - k2)) cap922) := nb_app2 nb916 (Nat.lt_of_lt_of_le (blk_lt x13) (s914).size) hat926
    have nb930 : Nb b17 (.slice A921 (((0 + k2) + 1) + (n - k2)) cap922) := nb_app2 nb917 (Nat.lt_of_lt_of_le (blk_lt x21) (s914).size) hat926
    have nb932 : Nb b865 (.slice A921 (((0 + k2) + 1) + (n - k2)) cap922) := nb_app2 nb919 (blk_lt x869) hat926
    have x869 := (hg925.block _ (blk_lt x869) nb919).trans x869
    have ho924 := own_joinP ho924
    have fr933 : ∀ kq, (.slice A921 (((0 + k2) + 1) + (n - k2)) cap922 : Value).ownBlock = some kq → wlj1.heap.size ≤ kq := fun kq e => by
      have hs := (s914).size
      rcases hat926 with h | h
      · exact (show ∀ kq, Value.ownBlock _ = some kq → wlj1.heap.size ≤ kq from fr920) kq (h.symm.trans e)
      · have := Option.some.inj (h.symm.trans e); omega
    refine Fq (.agg #[.int .i64 m, .slice A921 (((0 + k2) + 1) + (n - k2)) cap922]) (r_build rfl (vs := [(0, .int .i64 m), (1, .slice A921 (((0 + k2) + 1) + (n - k2)) cap922)]) kk kk) ?_
    refine W.ss (v := .agg #[.int .i64 m, .slice A921 (((0 + k2) + 1) + (n - k2)) cap922]) (j := 0) (news := [.int .i64 m, .slice A921 (((0 + k2) + 1) + (n - k2)) cap922]) (cs' := #[.int .i64 m, .slice A921 (((0 + k2) + 1) + (n - k2)) cap922]) s927 rfl kk rfl rfl kk kk x869 kk kk (by simp) kk kk (.inr (Nl (s646).size (Nat.le_of_eq hb867))) (fun w934 g935 x936 s937 => ?_)
    have ho938 := own_grown ho924 g935 (fun j e1 e2 => by cases e2; exact nb932 e1.symm)
    apply F.es
    have x6 := Sk s937 x6 onn
    have x13 := Sk s937 x13 onn
    have x21 := Sk s937 x21 onn
    have c939 := (Sb c45 s937 nkk)
    exact h10 0 _ _ ⟨A921, (((0 + k2) + 1) + (n - k2)), cap922, b865, (fun iU9 => lk [(2, .pointer (some ⟨b2, 0, none⟩)), (3, .pointer (some ⟨b9, 0, none⟩)), (4, .pointer (some ⟨b17, 0, none⟩)), (5, .bool false), (6, .int .i64 (k2 : Int)), (7, .pointer (some ⟨b865, 0, none⟩)), (37, .pointer (some ⟨b2, 0, none⟩)), (38, .int .i64 m), (39, .slice (some ⟨b876, 0, none⟩) 0 0), (40, .pointer (some ⟨b2, 1, none⟩)), (41, .slice A n c), (42, .int .i64 (k2 : Int)), (43, .slice A k2 c), (44, .slice A894 (0 + k2) cap895), (45, .agg #[.int .i64 x.id, .int .i64 x.fr, .int .i64 x.to, .int .i64 x.sz]), (46, .slice (some ⟨b641, 0, none⟩) 1 1), (47, .slice (some ⟨g907, 0, none⟩) ((0 + k2) + 1) cap908), (48, .pointer (some ⟨b2, 1, none⟩)), (49, .slice A n c), (50, .int .i64 (k2 : Int)), (51, .slice (sFrom A c k2 4) (n - k2) (c - k2)), (52, .slice A921 (((0 + k2) + 1) + (n - k2)) cap922), (53, .agg #[.int .i64 m, .slice A921 (((0 + k2) + 1) + (n - k2)) cap922])] iU9 (Uj1 iU9)), kk, x6, x13, x21, x936, lo871, ho938, by omega, nb928, nb929, nb930, nb932, ne872, ne873, ne874, c939⟩
   refine W.sn (fun b => .pointer (some ⟨b, 0, none⟩)) #[.int .i64 0, .slice none 0 0] 24 s71 rfl kk rfl (fun _ => by kernel_rfl) (fun b940 w941 hb942 k943 x944 s945 => ?_)
   apply F.nx
   have lo946 : w.heap.size ≤ b940 := Nl ((Sb c45 s71 nkk)).size (Nat.le_of_eq hb942)
   have ne947 : b2 ≠ b940 := Nat.ne_of_lt (Nat.lt_of_lt_of_eq (Nat.lt_of_lt_of_le (blk_lt x6) (s71).size) hb942)
   have ne948 : b9 ≠ b940 := Nat.ne_of_lt (Nat.lt_of_lt_of_eq (Nat.lt_of_lt_of_le (blk_lt x13) (s71).size) hb942)
   have ne949 : b17 ≠ b940 := Nat.ne_of_lt (Nat.lt_of_lt_of_eq (Nat.lt_of_lt_of_le (blk_lt x21) (s71).size) hb942)
   refine W.sbr ?_ ?_
   ·refine W.sn (fun b => .slice (some ⟨b, 0, none⟩) 0 0) #[] 38 s945 rfl kk rfl (fun _ => by kernel_rfl) (fun b950 w951 hb952 k953 x954 s955 => ?_)
    apply F.nx
    have lo956 : w.heap.size ≤ b950 := Nl ((Sb c45 s945 nkk)).size (Nat.le_of_eq hb952)
    have ne957 : b2 ≠ b950 := Nat.ne_of_lt (Nat.lt_of_lt_of_eq (Nat.lt_of_lt_of_le (blk_lt x6) (s945).size) hb952)
    have ne958 : b9 ≠ b950 := Nat.ne_of_lt (Nat.lt_of_lt_of_eq (Nat.lt_of_lt_of_le (blk_lt x13) (s945).size) hb952)
    have ne959 : b17 ≠ b950 := Nat.ne_of_lt (Nat.lt_of_lt_of_eq (Nat.lt_of_lt_of_le (blk_lt x21) (s945).size) hb952)
    have ne960 : b940 ≠ b950 := Nat.ne_of_lt (Nat.lt_of_lt_of_eq (blk_lt x944) hb952)
    have x944 := (k953.block _ (blk_lt x944)).trans x944
    refine W.sbr ?_ ?_
    ·have ho961 := own_empty (base := w.heap.size) (size := 4) x954 lo956
     replace ho961 : World.ownsRow _ _ _ _ _ _ (pipesV []) := ho961
     have nb962 : Nb b2 (.slice (some ⟨b950, 0, none⟩) 0 0) := nb_new ne957
     have nb963 : Nb b9 (.slice (some ⟨b950, 0, none⟩) 0 0) := nb_new ne958
     have nb964 : Nb b17 (.slice (some ⟨b950, 0, none⟩) 0 0) := nb_new ne959
     have nb965 : Nb b940 (.slice (some ⟨b950, 0, none⟩) 0 0) := nb_new ne960
     replace ho961 : World.ownsRow _ _ _ _ _ _ (pipesV []) := ho961
     refine W.sapR (e := 38) (size := 4) (base := w.heap.size) (v := .slice (some ⟨b950, 0, none⟩) 0 0) (A := A) (m := k2) (c := c) s955 rfl rfl rfl rfl kk kk kk ho961 (Rd.toP (Rk ha (Sb c45 s955 nkk)) (by omega)) (Fm.to hf (by have := (hf).le; omega)) (pipes_one _) (by omega) (by have := ((Sb c45 s955 nkk)).size; omega) (.inr (fun kq e => by have := (s945).size; have := hb952; have e' := Option.some.inj e; simp at e'; omega)) (fun A966 cap967 w968 ho969 hg970 hat971 s972 => ?_)
     apply F.nx
     have nb973 : Nb b2 (.slice A966 (0 + k2) cap967) := nb_app2 nb962 (Nat.lt_of_lt_of_le (blk_lt x6) (s955).size) hat971
     have nb974 : Nb b9 (.slice A966 (0 + k2) cap967) := nb_app2 nb963 (Nat.lt_of_lt_of_le (blk_lt x13) (s955).size) hat971
     have nb975 : Nb b17 (.slice A966 (0 + k2) cap967) := nb_app2 nb964 (Nat.lt_of_lt_of_le (blk_lt x21) (s955).size) hat971
     have nb976 : Nb b940 (.slice A966 (0 + k2) cap967) := nb_app2 nb965 (blk_lt x944) hat971
     have x944 := (hg970.block _ (blk_lt x944) nb965).trans x944
     have ho969 := own_joinP ho969
     have fr977 : ∀ kq, (.slice A966 (0 + k2) cap967 : Value).ownBlock = some kq → wlj1.heap.size ≤ kq := fun kq e => by
       have hs := (s955).size
       rcases hat971 with h | h
       · exact (show ∀ kq, Value.ownBlock _ = some kq → wlj1.heap.size ≤ kq from (fun kq e => by have := (s945).size; have := hb952; have e' := Option.some.inj e; simp at e'; omega)) kq (h.symm.trans e)
       · have := Option.some.inj (h.symm.trans e); omega
     refine W.sn (fun b => .slice (some ⟨b, 0, none⟩) 1 1) #[.int .i64 x.id, .int .i64 x.fr, .int .i64 x.to, .int .i64 x.sz] 38 s972 rfl kk rfl (fun _ => by kernel_rfl) (fun b978 w979 hb980 k981 x982 s983 => ?_)
     apply F.nx
     have lo984 : w.heap.size ≤ b978 := Nl ((Sb c45 s972 nkk)).size (Nat.le_of_eq hb980)
     have x944 := (k981.block _ (blk_lt x944)).trans x944
     have ho990 := own_kept ho969 k981
     refine W.sap (e := 38) (size := 4) (base := w.heap.size) (m := 1) (v := .slice A966 (0 + k2) cap967) (c := 1) s983 rfl rfl rfl rfl kk kk kk ho990 x982 kk kk (by omega) (by omega) (by have := ((Sb c45 s983 nkk)).size; omega) (.inr fr977) (fun g991 cap992 w993 ho994 hg995 hat996 hlt997 s998 => ?_)
     apply F.nx
     have nb999 : Nb b2 (.slice (some ⟨g991, 0, none⟩) ((0 + k2) + 1) cap992) := nb_app nb973 (Nat.lt_of_lt_of_le (blk_lt x6) (s983).size) hat996
     have nb1000 : Nb b9 (.slice (some ⟨g991, 0, none⟩) ((0 + k2) + 1) cap992) := nb_app nb974 (Nat.lt_of_lt_of_le (blk_lt x13) (s983).size) hat996
     have nb1001 : Nb b17 (.slice (some ⟨g991, 0, none⟩) ((0 + k2) + 1) cap992) := nb_app nb975 (Nat.lt_of_lt_of_le (blk_lt x21) (s983).size) hat996
     have nb1002 : Nb b940 (.slice (some ⟨g991, 0, none⟩) ((0 + k2) + 1) cap992) := nb_app nb976 (blk_lt x944) hat996
     have x944 := (hg995.block _ (blk_lt x944) nb976).trans x944
     have ho994 := own_snocP (x := x) ho994
     have fr1004 : ∀ kq, (.slice (some ⟨g991, 0, none⟩) ((0 + k2) + 1) cap992 : Value).ownBlock = some kq → wlj1.heap.size ≤ kq := fun kq e => by
       have hs := (s983).size
       have e' : g991 = kq := by simpa [Value.ownBlock] using e
       rcases hat996 with h | h
       · exact (show ∀ kq, Value.ownBlock _ = some kq → wlj1.heap.size ≤ kq from fr977) kq (by rw [← e']; exact h)
       · omega
     refine W.sapR (e := 38) (size := 4) (base := w.heap.size) (v := .slice (some ⟨g991, 0, none⟩) ((0 + k2) + 1) cap992) (A := (sFrom A c k2 4)) (m := (n - k2)) (c := (c - k2)) s998 rfl rfl rfl rfl kk kk kk ho994 (Rd.fromP (Rk ha (Sb c45 s998 nkk)) (by omega) (hf).le) (Fm.from (size := 4) hf (by omega)) (pipes_one _) (by omega) (by have := ((Sb c45 s998 nkk)).size; omega) (.inr fr1004) (fun A1005 cap1006 w1007 ho1008 hg1009 hat1010 s1011 => ?_)
     apply F.nx
     have nb1012 : Nb b2 (.slice A1005 (((0 + k2) + 1) + (n - k2)) cap1006) := nb_app2 nb999 (Nat.lt_of_lt_of_le (blk_lt x6) (s998).size) hat1010
     have nb1013 : Nb b9 (.slice A1005 (((0 + k2) + 1) + (n - k2)) cap1006) := nb_app2 nb1000 (Nat.lt_of_lt_of_le (blk_lt x13) (s998).size) hat1010
     have nb1014 : Nb b17 (.slice A1005 (((0 + k2) + 1) + (n - k2)) cap1006) := nb_app2 nb1001 (Nat.lt_of_lt_of_le (blk_lt x21) (s998).size) hat1010
     have nb1015 : Nb b940 (.slice A1005 (((0 + k2) + 1) + (n - k2)) cap1006) := nb_app2 nb1002 (blk_lt x944) hat1010
     have x944 := (hg1009.block _ (blk_lt x944) nb1002).trans x944
     have ho1008 := own_joinP ho1008
     have fr1017 : ∀ kq, (.slice A1005 (((0 + k2) + 1) + (n - k2)) cap1006 : Value).ownBlock = some kq → wlj1.heap.size ≤ kq := fun kq e => by
       have hs := (s998).size
       rcases hat1010 with h | h
       · exact (show ∀ kq, Value.ownBlock _ = some kq → wlj1.heap.size ≤ kq from fr1004) kq (h.symm.trans e)
       · have := Option.some.inj (h.symm.trans e); omega
     refine Fq (.agg #[.int .i64 m, .slice A1005 (((0 + k2) + 1) + (n - k2)) cap1006]) (r_build rfl (vs := [(0, .int .i64 m), (1, .slice A1005 (((0 + k2) + 1) + (n - k2)) cap1006)]) kk kk) ?_
     refine W.ss (v := .agg #[.int .i64 m, .slice A1005 (((0 + k2) + 1) + (n - k2)) cap1006]) (j := 0) (news := [.int .i64 m, .slice A1005 (((0 + k2) + 1) + (n - k2)) cap1006]) (cs' := #[.int .i64 m, .slice A1005 (((0 + k2) + 1) + (n - k2)) cap1006]) s1011 rfl kk rfl rfl kk kk x944 kk kk (by simp) kk kk (.inr (Nl (s71).size (Nat.le_of_eq hb942))) (fun w1018 g1019 x1020 s1021 => ?_)
     have ho1022 := own_grown ho1008 g1019 (fun j e1 e2 => by cases e2; exact nb1015 e1.symm)
     apply F.es
     have x6 := Sk s1021 x6 onn
     have x13 := Sk s1021 x13 onn
     have x21 := Sk s1021 x21 onn
     have c1023 := (Sb c45 s1021 nkk)
     exact h10 0 _ _ ⟨A1005, (((0 + k2) + 1) + (n - k2)), cap1006, b940, (fun iU9 => lk [(2, .pointer (some ⟨b2, 0, none⟩)), (3, .pointer (some ⟨b9, 0, none⟩)), (4, .pointer (some ⟨b17, 0, none⟩)), (5, .bool false), (6, .int .i64 (k2 : Int)), (7, .pointer (some ⟨b940, 0, none⟩)), (37, .pointer (some ⟨b2, 0, none⟩)), (38, .int .i64 m), (39, .slice (some ⟨b950, 0, none⟩) 0 0), (40, .pointer (some ⟨b2, 1, none⟩)), (41, .slice A n c), (42, .int .i64 (k2 : Int)), (43, .slice A k2 c), (44, .slice A966 (0 + k2) cap967), (45, .agg #[.int .i64 x.id, .int .i64 x.fr, .int .i64 x.to, .int .i64 x.sz]), (46, .slice (some ⟨b978, 0, none⟩) 1 1), (47, .slice (some ⟨g991, 0, none⟩) ((0 + k2) + 1) cap992), (48, .pointer (some ⟨b2, 1, none⟩)), (49, .slice A n c), (50, .int .i64 (k2 : Int)), (51, .slice (sFrom A c k2 4) (n - k2) (c - k2)), (52, .slice A1005 (((0 + k2) + 1) + (n - k2)) cap1006), (53, .agg #[.int .i64 m, .slice A1005 (((0 + k2) + 1) + (n - k2)) cap1006])] iU9 (Uj1 iU9)), kk, x6, x13, x21, x1020, lo946, ho1022, by omega, nb1012, nb1013, nb1014, nb1015, ne947, ne948, ne949, c1023⟩
    refine W.sn (fun b => .slice (some ⟨b, 0, none⟩) 1 1) #[.int .i64 x.id, .int .i64 x.fr, .int .i64 x.to, .int .i64 x.sz] 38 s955 rfl kk rfl (fun _ => by kernel_rfl) (fun b1024 w1025 hb1026 k1027 x1028 s1029 => ?_)
    apply F.nx
    have lo1030 : w.heap.size ≤ b1024 := Nl ((Sb c45 s955 nkk)).size (Nat.le_of_eq hb1026)
    have ne1035 : b950 ≠ b1024 := Nat.ne_of_lt (Nat.lt_of_lt_of_eq (blk_lt x954) hb1026)
    have x944 := (k1027.block _ (blk_lt x944)).trans x944
    have x954 := (k1027.block _ (blk_lt x954)).trans x954
    have ho1036 := own_empty (base := w.heap.size) (size := 4) x954 lo956
    replace ho1036 : World.ownsRow _ _ _ _ _ _ (pipesV []) := ho1036
    have nb1037 : Nb b2 (.slice (some ⟨b950, 0, none⟩) 0 0) := nb_new ne957
    have nb1038 : Nb b9 (.slice (some ⟨b950, 0, none⟩) 0 0) := nb_new ne958
    have nb1039 : Nb b17 (.slice (some ⟨b950, 0, none⟩) 0 0) := nb_new ne959
    have nb1040 : Nb b940 (.slice (some ⟨b950, 0, none⟩) 0 0) := nb_new ne960
    have nb1041 : Nb b1024 (.slice (some ⟨b950, 0, none⟩) 0 0) := nb_new (Ne.symm ne1035)
    replace ho1036 : World.ownsRow _ _ _ _ _ _ (pipesV []) := ho1036
    refine W.sapR (e := 38) (size := 4) (base := w.heap.size) (v := .slice (some ⟨b950, 0, none⟩) 0 0) (A := A) (m := k2) (c := c) s1029 rfl rfl rfl rfl kk kk kk ho1036 (Rd.toP (Rk ha (Sb c45 s1029 nkk)) (by omega)) (Fm.to hf (by have := (hf).le; omega)) (pipes_one _) (by omega) (by have := ((Sb c45 s1029 nkk)).size; omega) (.inr (fun kq e => by have := (s945).size; have := hb952; have e' := Option.some.inj e; simp at e'; omega)) (fun A1042 cap1043 w1044 ho1045 hg1046 hat1047 s1048 => ?_)
    apply F.nx
    have nb1049 : Nb b2 (.slice A1042 (0 + k2) cap1043) := nb_app2 nb1037 (Nat.lt_of_lt_of_le (blk_lt x6) (s1029).size) hat1047
    have nb1050 : Nb b9 (.slice A1042 (0 + k2) cap1043) := nb_app2 nb1038 (Nat.lt_of_lt_of_le (blk_lt x13) (s1029).size) hat1047
    have nb1051 : Nb b17 (.slice A1042 (0 + k2) cap1043) := nb_app2 nb1039 (Nat.lt_of_lt_of_le (blk_lt x21) (s1029).size) hat1047
    have nb1052 : Nb b940 (.slice A1042 (0 + k2) cap1043) := nb_app2 nb1040 (blk_lt x944) hat1047
    have x944 := (hg1046.block _ (blk_lt x944) nb1040).trans x944
    have x1028 := (hg1046.block _ (blk_lt x1028) nb1041).trans x1028
    have ho1045 := own_joinP ho1045
    have fr1054 : ∀ kq, (.slice A1042 (0 + k2) cap1043 : Value).ownBlock = some kq → wlj1.heap.size ≤ kq := fun kq e => by
      have hs := (s1029).size
      rcases hat1047 with h | h
      · exact (show ∀ kq, Value.ownBlock _ = some kq → wlj1.heap.size ≤ kq from (fun kq e => by have := (s945).size; have := hb952; have e' := Option.some.inj e; simp at e'; omega)) kq (h.symm.trans e)
      · have := Option.some.inj (h.symm.trans e); omega
    refine W.sap (e := 38) (size := 4) (base := w.heap.size) (m := 1) (v := .slice A1042 (0 + k2) cap1043) (c := 1) s1048 rfl rfl rfl rfl kk kk kk ho1045 x1028 kk kk (by omega) (by omega) (by have := ((Sb c45 s1048 nkk)).size; omega) (.inr fr1054) (fun g1055 cap1056 w1057 ho1058 hg1059 hat1060 hlt1061 s1062 => ?_)
    apply F.nx
    have nb1063 : Nb b2 (.slice (some ⟨g1055, 0, none⟩) ((0 + k2) + 1) cap1056) := nb_app nb1049 (Nat.lt_of_lt_of_le (blk_lt x6) (s1048).size) hat1060
    have nb1064 : Nb b9 (.slice (some ⟨g1055, 0, none⟩) ((0 + k2) + 1) cap1056) := nb_app nb1050 (Nat.lt_of_lt_of_le (blk_lt x13) (s1048).size) hat1060
    have nb1065 : Nb b17 (.slice (some ⟨g1055, 0, none⟩) ((0 + k2) + 1) cap1056) := nb_app nb1051 (Nat.lt_of_lt_of_le (blk_lt x21) (s1048).size) hat1060
    have nb1066 : Nb b940 (.slice (some ⟨g1055, 0, none⟩) ((0 + k2) + 1) cap1056) := nb_app nb1052 (blk_lt x944) hat1060
    have x944 := (hg1059.block _ (blk_lt x944) nb1052).trans x944
    have ho1058 := own_snocP (x := x) ho1058
    have fr1068 : ∀ kq, (.slice (some ⟨g1055, 0, none⟩) ((0 + k2) + 1) cap1056 : Value).ownBlock = some kq → wlj1.heap.size ≤ kq := fun kq e => by
      have hs := (s1048).size
      have e' : g1055 = kq := by simpa [Value.ownBlock] using e
      rcases hat1060 with h | h
      · exact (show ∀ kq, Value.ownBlock _ = some kq → wlj1.heap.size ≤ kq from fr1054) kq (by rw [← e']; exact h)
      · omega
    refine W.sapR (e := 38) (size := 4) (base := w.heap.size) (v := .slice (some ⟨g1055, 0, none⟩) ((0 + k2) + 1) cap1056) (A := (sFrom A c k2 4)) (m := (n - k2)) (c := (c - k2)) s1062 rfl rfl rfl rfl kk kk kk ho1058 (Rd.fromP (Rk ha (Sb c45 s1062 nkk)) (by omega) (hf).le) (Fm.from (size := 4) hf (by omega)) (pipes_one _) (by omega) (by have := ((Sb c45 s1062 nkk)).size; omega) (.inr fr1068) (fun A1069 cap1070 w1071 ho1072 hg1073 hat1074 s1075 => ?_)
    apply F.nx
    have nb1076 : Nb b2 (.slice A1069 (((0 + k2) + 1) + (n - k2)) cap1070) := nb_app2 nb1063 (Nat.lt_of_lt_of_le (blk_lt x6) (s1062).size) hat1074
    have nb1077 : Nb b9 (.slice A1069 (((0 + k2) + 1) + (n - k2)) cap1070) := nb_app2 nb1064 (Nat.lt_of_lt_of_le (blk_lt x13) (s1062).size) hat1074
    have nb1078 : Nb b17 (.slice A1069 (((0 + k2) + 1) + (n - k2)) cap1070) := nb_app2 nb1065 (Nat.lt_of_lt_of_le (blk_lt x21) (s1062).size) hat1074
    have nb1079 : Nb b940 (.slice A1069 (((0 + k2) + 1) + (n - k2)) cap1070) := nb_app2 nb1066 (blk_lt x944) hat1074
    have x944 := (hg1073.block _ (blk_lt x944) nb1066).trans x944
    have ho1072 := own_joinP ho1072
    have fr1081 : ∀ kq, (.slice A1069 (((0 + k2) + 1) + (n - k2)) cap1070 : Value).ownBlock = some kq → wlj1.heap.size ≤ kq := fun kq e => by
      have hs := (s1062).size
      rcases hat1074 with h | h
      · exact (show ∀ kq, Value.ownBlock _ = some kq → wlj1.heap.size ≤ kq from fr1068) kq (h.symm.trans e)
      · have := Option.some.inj (h.symm.trans e); omega
    refine Fq (.agg #[.int .i64 m, .slice A1069 (((0 + k2) + 1) + (n - k2)) cap1070]) (r_build rfl (vs := [(0, .int .i64 m), (1, .slice A1069 (((0 + k2) + 1) + (n - k2)) cap1070)]) kk kk) ?_
    refine W.ss (v := .agg #[.int .i64 m, .slice A1069 (((0 + k2) + 1) + (n - k2)) cap1070]) (j := 0) (news := [.int .i64 m, .slice A1069 (((0 + k2) + 1) + (n - k2)) cap1070]) (cs' := #[.int .i64 m, .slice A1069 (((0 + k2) + 1) + (n - k2)) cap1070]) s1075 rfl kk rfl rfl kk kk x944 kk kk (by simp) kk kk (.inr (Nl (s71).size (Nat.le_of_eq hb942))) (fun w1082 g1083 x1084 s1085 => ?_)
    have ho1086 := own_grown ho1072 g1083 (fun j e1 e2 => by cases e2; exact nb1079 e1.symm)
    apply F.es
    have x6 := Sk s1085 x6 onn
    have x13 := Sk s1085 x13 onn
    have x21 := Sk s1085 x21 onn
    have c1087 := (Sb c45 s1085 nkk)
    exact h10 0 _ _ ⟨A1069, (((0 + k2) + 1) + (n - k2)), cap1070, b940, (fun iU9 => lk [(2, .pointer (some ⟨b2, 0, none⟩)), (3, .pointer (some ⟨b9, 0, none⟩)), (4, .pointer (some ⟨b17, 0, none⟩)), (5, .bool false), (6, .int .i64 (k2 : Int)), (7, .pointer (some ⟨b940, 0, none⟩)), (37, .pointer (some ⟨b2, 0, none⟩)), (38, .int .i64 m), (39, .slice (some ⟨b950, 0, none⟩) 0 0), (40, .pointer (some ⟨b2, 1, none⟩)), (41, .slice A n c), (42, .int .i64 (k2 : Int)), (43, .slice A k2 c), (44, .slice A1042 (0 + k2) cap1043), (45, .agg #[.int .i64 x.id, .int .i64 x.fr, .int .i64 x.to, .int .i64 x.sz]), (46, .slice (some ⟨b1024, 0, none⟩) 1 1), (47, .slice (some ⟨g1055, 0, none⟩) ((0 + k2) + 1) cap1056), (48, .pointer (some ⟨b2, 1, none⟩)), (49, .slice A n c), (50, .int .i64 (k2 : Int)), (51, .slice (sFrom A c k2 4) (n - k2) (c - k2)), (52, .slice A1069 (((0 + k2) + 1) + (n - k2)) cap1070), (53, .agg #[.int .i64 m, .slice A1069 (((0 + k2) + 1) + (n - k2)) cap1070])] iU9 (Uj1 iU9)), kk, x6, x13, x21, x1084, lo946, ho1086, by omega, nb1076, nb1077, nb1078, nb1079, ne947, ne948, ne949, c1087⟩
   refine W.sn (fun b => .slice (some ⟨b, 0, none⟩) 1 1) #[.int .i64 x.id, .int .i64 x.fr, .int .i64 x.to, .int .i64 x.sz] 38 s945 rfl kk rfl (fun _ => by kernel_rfl) (fun b1088 w1089 hb1090 k1091 x1092 s1093 => ?_)
   apply F.nx
   have lo1094 : w.heap.size ≤ b1088 := Nl ((Sb c45 s945 nkk)).size (Nat.le_of_eq hb1090)
   have x944 := (k1091.block _ (blk_lt x944)).trans x944
   refine W.sn (fun b => .slice (some ⟨b, 0, none⟩) 0 0) #[] 38 s1093 rfl kk rfl (fun _ => by kernel_rfl) (fun b1099 w1100 hb1101 k1102 x1103 s1104 => ?_)
   apply F.nx
   have lo1105 : w.heap.size ≤ b1099 := Nl ((Sb c45 s1093 nkk)).size (Nat.le_of_eq hb1101)
   have ne1106 : b2 ≠ b1099 := Nat.ne_of_lt (Nat.lt_of_lt_of_eq (Nat.lt_of_lt_of_le (blk_lt x6) (s1093).size) hb1101)
   have ne1107 : b9 ≠ b1099 := Nat.ne_of_lt (Nat.lt_of_lt_of_eq (Nat.lt_of_lt_of_le (blk_lt x13) (s1093).size) hb1101)
   have ne1108 : b17 ≠ b1099 := Nat.ne_of_lt (Nat.lt_of_lt_of_eq (Nat.lt_of_lt_of_le (blk_lt x21) (s1093).size) hb1101)
   have ne1109 : b940 ≠ b1099 := Nat.ne_of_lt (Nat.lt_of_lt_of_eq (blk_lt x944) hb1101)
   have ne1110 : b1088 ≠ b1099 := Nat.ne_of_lt (Nat.lt_of_lt_of_eq (blk_lt x1092) hb1101)
   have x944 := (k1102.block _ (blk_lt x944)).trans x944
   have x1092 := (k1102.block _ (blk_lt x1092)).trans x1092
   have ho1111 := own_empty (base := w.heap.size) (size := 4) x1103 lo1105
   replace ho1111 : World.ownsRow _ _ _ _ _ _ (pipesV []) := ho1111
   have nb1112 : Nb b2 (.slice (some ⟨b1099, 0, none⟩) 0 0) := nb_new ne1106
   have nb1113 : Nb b9 (.slice (some ⟨b1099, 0, none⟩) 0 0) := nb_new ne1107
   have nb1114 : Nb b17 (.slice (some ⟨b1099, 0, none⟩) 0 0) := nb_new ne1108
   have nb1115 : Nb b940 (.slice (some ⟨b1099, 0, none⟩) 0 0) := nb_new ne1109
   have nb1116 : Nb b1088 (.slice (some ⟨b1099, 0, none⟩) 0 0) := nb_new ne1110
   replace ho1111 : World.ownsRow _ _ _ _ _ _ (pipesV []) := ho1111
   refine W.sapR (e := 38) (size := 4) (base := w.heap.size) (v := .slice (some ⟨b1099, 0, none⟩) 0 0) (A := A) (m := k2) (c := c) s1104 rfl rfl rfl rfl kk kk kk ho1111 (Rd.toP (Rk ha (Sb c45 s1104 nkk)) (by omega)) (Fm.to hf (by have := (hf).le; omega)) (pipes_one _) (by omega) (by have := ((Sb c45 s1104 nkk)).size; omega) (.inr (fun kq e => by have := (s1093).size; have := hb1101; have e' := Option.some.inj e; simp at e'; omega)) (fun A1117 cap1118 w1119 ho1120 hg1121 hat1122 s1123 => ?_)
   apply F.nx
   have nb1124 : Nb b2 (.slice A1117 (0 + k2) cap1118) := nb_app2 nb1112 (Nat.lt_of_lt_of_le (blk_lt x6) (s1104).size) hat1122
   have nb1125 : Nb b9 (.slice A1117 (0 + k2) cap1118) := nb_app2 nb1113 (Nat.lt_of_lt_of_le (blk_lt x13) (s1104).size) hat1122
   have nb1126 : Nb b17 (.slice A1117 (0 + k2) cap1118) := nb_app2 nb1114 (Nat.lt_of_lt_of_le (blk_lt x21) (s1104).size) hat1122
   have nb1127 : Nb b940 (.slice A1117 (0 + k2) cap1118) := nb_app2 nb1115 (blk_lt x944) hat1122
   have x944 := (hg1121.block _ (blk_lt x944) nb1115).trans x944
   have x1092 := (hg1121.block _ (blk_lt x1092) nb1116).trans x1092
   have ho1120 := own_joinP ho1120
   have fr1129 : ∀ kq, (.slice A1117 (0 + k2) cap1118 : Value).ownBlock = some kq → wlj1.heap.size ≤ kq := fun kq e => by
     have hs := (s1104).size
     rcases hat1122 with h | h
     · exact (show ∀ kq, Value.ownBlock _ = some kq → wlj1.heap.size ≤ kq from (fun kq e => by have := (s1093).size; have := hb1101; have e' := Option.some.inj e; simp at e'; omega)) kq (h.symm.trans e)
     · have := Option.some.inj (h.symm.trans e); omega
   refine W.sap (e := 38) (size := 4) (base := w.heap.size) (m := 1) (v := .slice A1117 (0 + k2) cap1118) (c := 1) s1123 rfl rfl rfl rfl kk kk kk ho1120 x1092 kk kk (by omega) (by omega) (by have := ((Sb c45 s1123 nkk)).size; omega) (.inr fr1129) (fun g1130 cap1131 w1132 ho1133 hg1134 hat1135 hlt1136 s1137 => ?_)
   apply F.nx
   have nb1138 : Nb b2 (.slice (some ⟨g1130, 0, none⟩) ((0 + k2) + 1) cap1131) := nb_app nb1124 (Nat.lt_of_lt_of_le (blk_lt x6) (s1123).size) hat1135
   have nb1139 : Nb b9 (.slice (some ⟨g1130, 0, none⟩) ((0 + k2) + 1) cap1131) := nb_app nb1125 (Nat.lt_of_lt_of_le (blk_lt x13) (s1123).size) hat1135
   have nb1140 : Nb b17 (.slice (some ⟨g1130, 0, none⟩) ((0 + k2) + 1) cap1131) := nb_app nb1126 (Nat.lt_of_lt_of_le (blk_lt x21) (s1123).size) hat1135
   have nb1141 : Nb b940 (.slice (some ⟨g1130, 0, none⟩) ((0 + k2) + 1) cap1131) := nb_app nb1127 (blk_lt x944) hat1135
   have x944 := (hg1134.block _ (blk_lt x944) nb1127).trans x944
   have ho1133 := own_snocP (x := x) ho1133
   have fr1143 : ∀ kq, (.slice (some ⟨g1130, 0, none⟩) ((0 + k2) + 1) cap1131 : Value).ownBlock = some kq → wlj1.heap.size ≤ kq := fun kq e => by
     have hs := (s1123).size
     have e' : g1130 = kq := by simpa [Value.ownBlock] using e
     rcases hat1135 with h | h
     · exact (show ∀ kq, Value.ownBlock _ = some kq → wlj1.heap.size ≤ kq from fr1129) kq (by rw [← e']; exact h)
     · omega
   refine W.sapR (e := 38) (size := 4) (base := w.heap.size) (v := .slice (some ⟨g1130, 0, none⟩) ((0 + k2) + 1) cap1131) (A := (sFrom A c k2 4)) (m := (n - k2)) (c := (c - k2)) s1137 rfl rfl rfl rfl kk kk kk ho1133 (Rd.fromP (Rk ha (Sb c45 s1137 nkk)) (by omega) (hf).le) (Fm.from (size := 4) hf (by omega)) (pipes_one _) (by omega) (by have := ((Sb c45 s1137 nkk)).size; omega) (.inr fr1143) (fun A1144 cap1145 w1146 ho1147 hg1148 hat1149 s1150 => ?_)
   apply F.nx
   have nb1151 : Nb b2 (.slice A1144 (((0 + k2) + 1) + (n - k2)) cap1145) := nb_app2 nb1138 (Nat.lt_of_lt_of_le (blk_lt x6) (s1137).size) hat1149
   have nb1152 : Nb b9 (.slice A1144 (((0 + k2) + 1) + (n - k2)) cap1145) := nb_app2 nb1139 (Nat.lt_of_lt_of_le (blk_lt x13) (s1137).size) hat1149
   have nb1153 : Nb b17 (.slice A1144 (((0 + k2) + 1) + (n - k2)) cap1145) := nb_app2 nb1140 (Nat.lt_of_lt_of_le (blk_lt x21) (s1137).size) hat1149
   have nb1154 : Nb b940 (.slice A1144 (((0 + k2) + 1) + (n - k2)) cap1145) := nb_app2 nb1141 (blk_lt x944) hat1149
   have x944 := (hg1148.block _ (blk_lt x944) nb1141).trans x944
   have ho1147 := own_joinP ho1147
   have fr1156 : ∀ kq, (.slice A1144 (((0 + k2) + 1) + (n - k2)) cap1145 : Value).ownBlock = some kq → wlj1.heap.size ≤ kq := fun kq e => by
     have hs := (s1137).size
     rcases hat1149 with h | h
     · exact (show ∀ kq, Value.ownBlock _ = some kq → wlj1.heap.size ≤ kq from fr1143) kq (h.symm.trans e)
     · have := Option.some.inj (h.symm.trans e); omega
   refine Fq (.agg #[.int .i64 m, .slice A1144 (((0 + k2) + 1) + (n - k2)) cap1145]) (r_build rfl (vs := [(0, .int .i64 m), (1, .slice A1144 (((0 + k2) + 1) + (n - k2)) cap1145)]) kk kk) ?_
   refine W.ss (v := .agg #[.int .i64 m, .slice A1144 (((0 + k2) + 1) + (n - k2)) cap1145]) (j := 0) (news := [.int .i64 m, .slice A1144 (((0 + k2) + 1) + (n - k2)) cap1145]) (cs' := #[.int .i64 m, .slice A1144 (((0 + k2) + 1) + (n - k2)) cap1145]) s1150 rfl kk rfl rfl kk kk x944 kk kk (by simp) kk kk (.inr (Nl (s71).size (Nat.le_of_eq hb942))) (fun w1157 g1158 x1159 s1160 => ?_)
   have ho1161 := own_grown ho1147 g1158 (fun j e1 e2 => by cases e2; exact nb1154 e1.symm)
   apply F.es
   have x6 := Sk s1160 x6 onn
   have x13 := Sk s1160 x13 onn
   have x21 := Sk s1160 x21 onn
   have c1162 := (Sb c45 s1160 nkk)
   exact h10 0 _ _ ⟨A1144, (((0 + k2) + 1) + (n - k2)), cap1145, b940, (fun iU9 => lk [(2, .pointer (some ⟨b2, 0, none⟩)), (3, .pointer (some ⟨b9, 0, none⟩)), (4, .pointer (some ⟨b17, 0, none⟩)), (5, .bool false), (6, .int .i64 (k2 : Int)), (7, .pointer (some ⟨b940, 0, none⟩)), (37, .pointer (some ⟨b2, 0, none⟩)), (38, .int .i64 m), (39, .slice (some ⟨b1099, 0, none⟩) 0 0), (40, .pointer (some ⟨b2, 1, none⟩)), (41, .slice A n c), (42, .int .i64 (k2 : Int)), (43, .slice A k2 c), (44, .slice A1117 (0 + k2) cap1118), (45, .agg #[.int .i64 x.id, .int .i64 x.fr, .int .i64 x.to, .int .i64 x.sz]), (46, .slice (some ⟨b1088, 0, none⟩) 1 1), (47, .slice (some ⟨g1130, 0, none⟩) ((0 + k2) + 1) cap1131), (48, .pointer (some ⟨b2, 1, none⟩)), (49, .slice A n c), (50, .int .i64 (k2 : Int)), (51, .slice (sFrom A c k2 4) (n - k2) (c - k2)), (52, .slice A1144 (((0 + k2) + 1) + (n - k2)) cap1145), (53, .agg #[.int .i64 m, .slice A1144 (((0 + k2) + 1) + (n - k2)) cap1145])] iU9 (Uj1 iU9)), kk, x6, x13, x21, x1159, lo946, ho1161, by omega, nb1151, nb1152, nb1153, nb1154, ne947, ne948, ne949, c1162⟩
  intro K11 h11
  refine wp_block ?_
  refine loopK (fun am0 aa0 wl0 => ∃ (k : Nat) , Kn aa0 [(2, .pointer (some ⟨b2, 0, none⟩)), (3, .pointer (some ⟨b9, 0, none⟩)), (4, .pointer (some ⟨b17, 0, none⟩)), (5, .bool false), (6, .int .i64 (k : Int))] 59 ∧ (am0 = n - k) ∧ (k ≤ n) ∧ (∀ j z, j < k → ps[j]? = some z → z.id < x.id) ∧ (wl0.heap[b2]? = some (.cells #[.int .i64 m, .slice A n c] 24 (0, 0))) ∧ (wl0.heap[b9]? = some (.cells #[.int .i64 x.id, .int .i64 x.fr, .int .i64 x.to, .int .i64 x.sz] 38 (0, 0))) ∧ (wl0.heap[b17]? = some (.cells #[.int .i64 0, .slice none 0 0] 24 (0, 0))) ∧ (Below w.heap.size w wl0)) (n - 0) ?_ ?_
  ·exact ⟨0, Kn.of, rfl, (Nat.zero_le _), (fun j z hj => absurd hj (by omega)), x6, x13, x21, c44⟩
  rintro am0 aa0 wl0 K12 h12 ⟨k, ⟨U0, rfl⟩, rfl, hk, hpre, x6, x13, x21, c1163⟩
  refine wk fun K13 h13 => ?_
  refine wk fun K14 h14 => ?_
  refine W.region_sch (row := none) (Sch.of [(0, false), (1, false), (2, false), (3, false), (4, false), (5, false), (6, false), (7, false), (8, false), (9, false), (10, false), (11, false), (12, false), (13, false), (14, false), (15, false)]) kk kk (fun _ d _ _ _ h => by cases d <;> exact h) kk (fun w1164 e1165 s1166 => ?_)
  refine Fv (.int .i64 (k : Int)) ?_
  refine Fq (.pointer (some ⟨b2, 1, none⟩)) (r_field (k := 1) rfl ek kk) ?_
  refine Fl (.slice A n c) (sgS (blk_cell (j := 1) x6 kk) onn) ?_
  refine Fq (.int .i64 (n : Int)) (r_len (A := A) (n := n) (c := c) rfl ek kk) ?_
  by_cases q1167 : ((k : Int) : Int) < ((n : Int) : Int)
  ·refine Fq (.bool true) (r_lss (m := (k : Int)) (n := (n : Int)) rfl ek ek (dt q1167)) ?_
   refine Fv (.bool true) ?_
   refine Fq (.pointer (some ⟨b2, 1, none⟩)) (r_field (k := 1) rfl ek kk) ?_
   refine Fl (.slice A n c) (sgS (blk_cell (j := 1) x6 kk) onn) ?_
   refine Fv (.int .i64 (k : Int)) ?_
   obtain ⟨x1168, hx1169⟩ := get_of (zs := ps) (k := k) (by have := hl; omega)
   obtain ⟨b1170, o1171, hA1172, hb1173, hc1174, hc1175, hc1176, hc1177⟩ := Rd.elPipe ha hx1169
   refine Fq (.pointer (some ⟨b1170, o1171 + k * 4, none⟩)) (r_idx (n := n) (c := c) (k := k) rfl ek hA1172 kk kk (by have := hl; omega)) ?_
   refine Fq (.pointer (some ⟨b1170, o1171 + k * 4, none⟩)) (r_field0 rfl ek kk) ?_
   refine Fl (.int .i64 x1168.id) (sgS (later c1163 hc1174) (by simp)) ?_
   refine Fq (.pointer (some ⟨b9, 0, none⟩)) (r_field0 rfl ek kk) ?_
   refine Fl (.int .i64 x.id) (sgS (blk_cell (j := 0) x13 kk) onn) ?_
   by_cases q1178 : (x1168.id : Int) < (x.id : Int)
   ·refine Fq (.bool true) (r_lss (m := x1168.id) (n := x.id) rfl ek ek (dt q1178)) ?_
    refine Fq (.bool true) (r_pick (b := true) rfl ek ek) ?_
    apply F.es
    have x6 := Sk s1166 x6 onn
    have x13 := Sk s1166 x13 onn
    have x21 := Sk s1166 x21 onn
    have c1179 := (Sb c1163 s1166 nkk)
    apply h14
    as_aux_lemma =>
     refine wp_cond_true ek ?_
     apply wp_skip
     apply h13
     refine wp_block ?_
     refine Rq 3 ?_
     refine Fv (.int .i64 (k : Int)) ?_
     refine Fq (.int .i64 ((k + 1 : Nat) : Int)) (r_add (m := (k : Int)) (n := 1) (z := ((k + 1 : Nat) : Int)) rfl ek ek (by omega) (by omega)) ?_
     refine Fa (.int .i64 ((k + 1 : Nat) : Int)) ?_
     apply F.es
     exact h12 _ _ _ (by omega : (n - (k + 1)) < _) ⟨k + 1, Kn.of, rfl, (by omega), (upto_succ (Q := fun z => z.id < x.id) hpre hx1169 (by omega)), x6, x13, x21, c1179⟩
   refine Fq (.bool false) (r_lss (m := x1168.id) (n := x.id) rfl ek ek (df q1178)) ?_
   refine Fq (.bool false) (r_pick (b := true) rfl ek ek) ?_
   apply F.es
   have x6 := Sk s1166 x6 onn
   have x13 := Sk s1166 x13 onn
   have x21 := Sk s1166 x21 onn
   have c1180 := (Sb c1163 s1166 nkk)
   apply h14
   refine wp_cond_false ek ?_
   refine wp_exit ?_
   have hkk9 : insAtP ps x.id = k := insAtP_at hpre (by omega) (fun z9 hz9 => by rw [hx1169] at hz9; cases hz9; omega)
   exact h11 _ _ _ ⟨k, Kn.of, rfl, (by omega), hkk9, x6, x13, x21, c1180⟩
  refine Fq (.bool false) (r_lss (m := (k : Int)) (n := (n : Int)) rfl ek ek (df q1167)) ?_
  refine Fv (.bool false) ?_
  refine Fs s1166 ?_
  refine Fs s1166 ?_
  refine Fs s1166 ?_
  refine Fs s1166 ?_
  refine Fs s1166 ?_
  refine Fs s1166 ?_
  refine Fs s1166 ?_
  refine Fs s1166 ?_
  refine Fs s1166 ?_
  refine Fq (.bool false) (r_pick (b := false) rfl ek ek) ?_
  apply F.es
  have x6 := Sk s1166 x6 onn
  have x13 := Sk s1166 x13 onn
  have x21 := Sk s1166 x21 onn
  have c1181 := (Sb c1163 s1166 nkk)
  apply h14
  refine wp_cond_false ek ?_
  refine wp_exit ?_
  have hkk9 : insAtP ps x.id = k := insAtP_at hpre (by omega) (fun z9 hz9 => by have h8 := (List.getElem?_eq_some_iff.1 hz9).1; omega)
  exact h11 _ _ _ ⟨k, Kn.of, rfl, (by omega), hkk9, x6, x13, x21, c1181⟩
 rw [q31]
 refine Fq (.bool true) (r_not (b := false) rfl ek rfl) ?_
 refine Fv (.bool true) ?_
 refine Fs s30 ?_
 refine Fs s30 ?_
 refine Fs s30 ?_
 refine Fs s30 ?_
 refine Fs s30 ?_
 refine Fq (.bool true) (r_pick (b := true) rfl ek ek) ?_
 apply F.es
 have x21 := Sk s30 x21 onn
 have c1182 := (Sb c26 s30 nkk)
 apply h3
 refine wp_cond_true ek ?_
 refine wk fun K15 h15 => ?_
 refine W.region_plain (row := (some b17)) [(0, false), (1, true), (2, false)] kk ?_
 have s1183 := SG.self w29 (some b17)
 refine Fq (.agg #[.int .i64 0, .slice none 0 0]) (r_build rfl (vs := []) kk kk) ?_
 refine W.ss (v := .agg #[.int .i64 0, .slice none 0 0]) (j := 0) (news := [.int .i64 0, .slice none 0 0]) (cs' := #[.int .i64 0, .slice none 0 0]) s1183 rfl kk rfl rfl kk kk x21 kk kk (by simp) kk kk (.inl rfl) (fun w1184 g1185 x1186 s1187 => ?_)
 refine Fa (.bool false) ?_
 apply F.es
 have c1188 := (Sb c1182 s1187 (fun kq e => by cases e; exact lo23))
 apply h15
 as_aux_lemma =>
  refine wp_ret ?_
  try simp only [Exit.then]
  refine retCT (x := .bool false) rfl kk kk kk kk x1186 ?_
  exact fin_rdn (rd_none4 _) (add_no q31).2.2.symm (add_no q31).2.1.symm (add_no q31).1.symm c1188
end Go.Proofs.YtdlcldaogcbnlaaDoor
namespace Go.Proofs.YtdlcldaogcbnlaaDoor
open Go.RowKit
set_option linter.unusedVariables false
set_option linter.unusedSimpArgs false
def spl (L : List Value) (off : Nat) (cs : List Value) : List Value := L.take off ++ cs ++ L.drop (off + cs.length)
theorem spl_len {L : List Value} {off : Nat} {cs : List Value} (h : off + cs.length ≤ L.length) : (spl L off cs).length = L.length := by
  unfold spl; rw [List.length_append, List.length_append, List.length_take, List.length_drop]; omega
theorem ins_A {L P X R : List Value} {i n : Nat} (hL : (n + 1) * 4 ≤ L.length) (hi : i ≤ n) (hP : L.take (i * 4) = P) (hX : X.length = 4) (hR : R.length = (n - i) * 4) : (spl (spl L (i * 4) X) ((i + 1) * 4) R).take ((n + 1) * 4) = P ++ (X ++ R) := by
  have hp : P.length = i * 4 := by rw [← hP, List.length_take]; omega
  have e1 : spl L (i * 4) X = (P ++ X) ++ L.drop (i * 4 + X.length) := by unfold spl; rw [hP]
  have e2 : (spl L (i * 4) X).take ((i + 1) * 4) = P ++ X := by rw [e1]; exact List.take_left' (by rw [List.length_append, hp, hX]; omega)
  unfold spl at e2 ⊢
  rw [e2, ← List.append_assoc]
  exact List.take_left' (by rw [List.length_append, List.length_append, hp, hX, hR]; omega)
theorem ins_B {L P X R : List Value} {i n : Nat} (hL : (n + 1) * 4 ≤ L.length) (hi : i ≤ n) (hP : L.take (i * 4) = P) (hX : X.length = 4) (hR : R.length = (n - i) * 4) : (spl (spl L ((i + 1) * 4) R) (i * 4) X).take ((n + 1) * 4) = P ++ (X ++ R) := by
  have hp : P.length = i * 4 := by rw [← hP, List.length_take]; omega
  have ht : (L.take ((i + 1) * 4)).length = (i + 1) * 4 := by rw [List.length_take]; omega
  have e1 : (spl L ((i + 1) * 4) R).take (i * 4) = P := by
    unfold spl
    rw [List.append_assoc, List.take_append_of_le_length (by rw [ht]; omega), List.take_take, Nat.min_eq_left (by omega), hP]
  have e2 : (spl L ((i + 1) * 4) R).drop (i * 4 + X.length) = R ++ L.drop ((i + 1) * 4 + R.length) := by
    unfold spl
    rw [List.append_assoc]
    exact List.drop_left' (by rw [ht, hX]; omega)
  show ((spl L ((i + 1) * 4) R).take (i * 4) ++ X ++ (spl L ((i + 1) * 4) R).drop (i * 4 + X.length)).take ((n + 1) * 4) = _
  rw [e1, e2, ← List.append_assoc, List.append_assoc P X R |>.symm]
  exact List.take_left' (by rw [List.length_append, List.length_append, hp, hX, hR]; omega)
theorem insInfo : (Tryd.prog.info? 38).map (fun i => (i.zero, i.size, i.bytes)) = some (some (.agg #[.int .i64 0, .int .i64 0, .int .i64 0, .int .i64 0]), 4, 32) := by kernel_rfl
theorem ins_one (ps : List Pp) : ∀ u ∈ pipesV ps, u.oneCell' = true := pipes_one ps
theorem ins_len (ps : List Pp) : (pipesV ps).length = ps.length * 4 := by rw [pipesV_len]
theorem ins_cat (xs ys : List Pp) : pipesV (xs ++ ys) = pipesV xs ++ pipesV ys := by simp [pipesV]
theorem ins_take (ps : List Pp) : ∀ k, pipesV (ps.take k) = (pipesV ps).take (k * 4) := by
  induction ps with
  | nil => intro k; simp [pipesV]
  | cons p ps ih =>
    intro k
    cases k with
    | zero => simp [pipesV]
    | succ k =>
      have e : pipesV (p :: ps) = p.vals ++ pipesV ps := by simp [pipesV]
      rw [List.take_succ_cons, show pipesV (p :: ps.take k) = p.vals ++ pipesV (ps.take k) by simp [pipesV], e, ih k, show (k + 1) * 4 = p.vals.length + k * 4 by simp [Pp.vals]; omega, List.take_length_add_append]
theorem ins_drop (ps : List Pp) : ∀ k, pipesV (ps.drop k) = (pipesV ps).drop (k * 4) := by
  induction ps with
  | nil => intro k; simp [pipesV]
  | cons p ps ih =>
    intro k
    cases k with
    | zero => simp [pipesV]
    | succ k =>
      have e : pipesV (p :: ps) = p.vals ++ pipesV ps := by simp [pipesV]
      rw [List.drop_succ_cons, e, ih k, show (k + 1) * 4 = p.vals.length + k * 4 by simp [Pp.vals]; omega, List.drop_length_add_append]
theorem ins_fin (ps : List Pp) (x : Pp) (i : Nat) : pipesV (ps.take i) ++ (x.vals ++ pipesV (ps.drop i)) = pipesV (ps.take i ++ x :: ps.drop i) := by
  rw [ins_cat]; simp [pipesV]
theorem cells_at {w : World} {g o : Nat} {cur : Array Value} {E : TypeId} {L : List Value} {k : Nat} (hg : w.heap[g]? = some (.cells cur E (0, 0))) (h : (cur.toList.take k).drop o = L) : ∀ j u, L[j]? = some u → w.cell? (Addr.add ⟨g, o, none⟩ j) = some u := fun j u hu => by
  rw [← h, List.getElem?_drop, List.getElem?_take] at hu
  split at hu
  · simp only [Addr.add_lit, World.cell?, hg]; simpa using hu
  · cases hu
theorem r_capS {P : Program} {S : World → Prop} {o : Oper} {a : Act} {x : Operand} {t : TypeId} {A : Option Addr} {n c : Nat} (ho : o.op = .call { callee := .builtin .cap, args := #[x], argTypes := #[t] }) (hx : a.eval x = .slice A n c) (ht : (elSz P t).isSome = true) :
    ∀ w, S w → (execOp a.eval o).run P w = .ok (.value (.int .i64 (c : Int))) w := fun w _ => by
  obtain ⟨s, hs⟩ := Option.isSome_iff_exists.1 ht
  obtain ⟨e, hu, _⟩ := elSz_of hs
  simp [execOp, ho, resolve, invoke, builtin, hx, Builtin.cap_, run_underlying hu, Result.andThen, goInt]
theorem x_one (x : Pp) : ∀ u ∈ x.vals, u.oneCell' = true := fun u hu => ins_one [x] u (by simpa [pipesV] using hu)
theorem x_len (x : Pp) : x.vals.length = 1 * 4 := rfl
theorem r_sliceFrome {P : Program} {S : World → Prop} {o : Oper} {a : Act} {t : TypeId} {x y : Operand} {A A2 : Option Addr} {n c k size : Nat} (ho : o.op = .slice t x (some y) none none) (hx : a.eval x = .slice A n c) (hy : a.eval y = .int .i64 (k : Int)) (ht : elSz P t = some size) (hk : k ≤ n) (e : sFrom A c k size = A2) :
    ∀ w, S w → (execOp a.eval o).run P w = .ok (.value (.slice A2 (n - k) (c - k))) w := by
  subst e
  exact r_sliceFrom ho hx hy ht hk
theorem run_externOp {P : Program} {l : List Value} {w : World} {o : Oper} {f : FuncId} {as9 : Array Operand} {ts : Array TypeId} {vs : List Value} {v : Value} (ho : o.op = .call { callee := .value (.func f), args := as9, argTypes := ts }) (hv : as9.toList.map (Act.mk l.toArray []).eval = vs) (hr : (callFunc f vs.toArray).run P w = .ok (.value v) w) :
    (execOp (Act.mk l.toArray []).eval o).run P w = .ok (.value v) w := by
  have hv' : as9.map (Act.mk l.toArray []).eval = vs.toArray := Array.toList_inj.1 (by rw [Array.toList_map]; exact hv)
  obtain ⟨dst, op, ty, pos, after, guard⟩ := o
  simp only at ho
  subst ho
  have e : execOp (Act.mk l.toArray []).eval ⟨dst, .call { callee := .value (.func f), args := as9, argTypes := ts }, ty, pos, after, guard⟩ = callFunc f (#[] ++ as9.map (Act.mk l.toArray []).eval ++ #[]) := rfl
  rw [e, hv']
  simpa using hr
theorem ov_run (w : World) (vb g o la ca lb cb : Nat) (vc cur : Array Value) (hv : w.heap[vb]? = some (.cells vc 38 (0, 0))) (hh : w.heap[g]? = some (.cells cur 38 (0, 0))) (hne : vb ≠ g) (hk : cur.size ≠ 0) :
    (callFunc 85 #[.slice (some ⟨vb, 0, none⟩) la ca, .slice (some ⟨g, o, none⟩) lb cb]).run Tryd.prog w = .ok (.value (.bool false)) w := by
  rw [run_callFunc_extern Tryd.func85 (by kernel_rfl) (by kernel_rfl) (by kernel_rfl) (e := Extern.SlicesOverlaps.overlaps #[22, 22] #[4]) (by kernel_rfl),
    Lib.run_overlaps_apart w 22 4 38 (by kernel_rfl) 4 (run_sizeOf (by kernel_rfl)) ⟨vb, 0, none⟩ ⟨g, o, none⟩ la ca lb cb hne 38 38 vc.size cur.size (by simp [World.shape?, hv]) (by simp [World.shape?, hh]) hk (by simp [World.frozen?, hv]) (by simp [World.frozen?, hv])]
  rfl
theorem run_zeros (w : World) (tn ty : TypeId) (kn : IntKind) (htn : Tryd.prog.underlying tn = some (.int kn)) (g i c k : Nat) (cur : Array Value) (hg : w.heap[g]? = some (.cells cur 38 (0, 0))) (hs : cur.size = c * 4) (hi : i ≤ c) (h0 : 0 < k) (hgr : c < i + k) (hm : i + k ≤ 1000001) :
    ∃ c2 cur2, (Builtin.append_ #[22, tn] ty #[.slice (some ⟨g, 0, none⟩) i c, .int .i64 k]).run Tryd.prog w = .ok (.slice (some ⟨w.heap.size, 0, none⟩) (i + k) c2) (w.drew.alloc (.cells cur2 38)) ∧ cur2.size = c2 * 4 ∧ i + k ≤ c2 ∧ c2 ≤ maxLen ∧ cur2.toList.take (i * 4) = cur.toList.take (i * 4) := by
  obtain ⟨i0, hi0, hz0, hz1, hz2⟩ := info_parts insInfo
  have hl : (cur.toList.take (i * 4)).length = i * 4 := by rw [List.length_take, Array.length_toList, hs]; omega
  have hold : (Builtin.firstCells i0.size i (.slice (some ⟨g, 0, none⟩) i c)).run Tryd.prog w.drew = .ok (cur.toList.take (i * 4)).toArray w.drew := by
    rw [hz1]
    exact run_firstCells_some _ 4 i ⟨g, 0, none⟩ i c _ hl (fun j v hj => by
      rw [List.getElem?_take] at hj
      split at hj
      · rw [Addr.add_lit, Nat.zero_add]; exact blk_cell (W := w.drew) hg (by simpa using hj)
      · cases hj)
  have hb : (i + k) * 32 ≤ 140737488355328 := by omega
  have hf := growslice_fits (bytes := 32) hgr hb
  have hr := Lib.run_append_grow_zeros w 22 tn ty 38 i0 _ .i64 kn (by kernel_rfl) htn hi0 hz0 (some ⟨g, 0, none⟩) i c _ hold k h0 (by omega) hgr (by omega) (by rw [hz2]; omega) (by rw [hz2]; exact hf)
  have hge := grownCap_ge w (i + k) c 38
  refine ⟨_, _, hr, ?_, hge, grownCap_le_maxLen w (i + k) c 38 (by unfold maxLen; omega), ?_⟩
  · simp only [Array.size_append, size_zeroCells, List.size_toArray, hl]
    show i * 4 + k * 4 + (grownCap w (i + k) c 38 - (i + k)) * 4 = _
    omega
  · simp only [Array.toList_append, List.append_assoc]
    exact List.take_left' hl
theorem grown_da (w : World) (o : Obj) (r : Option Nat) : w.grownBy (w.drew.alloc o) r := ⟨rfl, rfl, rfl, (World.grownBy_alloc w.drew o r).size, (World.grownBy_alloc w.drew o r).block⟩
theorem da_new (w : World) (o : Obj) : (w.drew.alloc o).heap[w.heap.size]? = some o := heap_alloc_new w.drew o
theorem ins_end {ps : List Pp} {x : Pp} {n i : Nat} (hl : ps.length = n) (hi : (i : Int) = (n : Int)) : ps ++ [x] = ps.take i ++ x :: ps.drop i := by
  have e : i = ps.length := by omega
  subst e
  simp
set_option maxRecDepth 100000 in
set_option maxHeartbeats 8000000 in
theorem InsertP_some (g n c i vb base : Nat) (cur : Array Value) (ps : List Pp) (x : Pp) (w : World) (hbs : base ≤ w.heap.size) (hb : base ≤ g) (hh : w.heap[g]? = some (.cells cur 38 (0, 0))) (hnc : n ≤ c) (hcm : c ≤ maxLen) (hcs : cur.size = c * 4) (hct : cur.toList.take (n * 4) = pipesV ps) (hl : ps.length = n) (hv : w.heap[vb]? = some (.cells #[.int .i64 x.id, .int .i64 x.fr, .int .i64 x.to, .int .i64 x.sz] 38 (0, 0))) (hvg : vb ≠ g) (hi : i ≤ n) (hn : n ≤ 1000000) :
    Calls Tryd.prog 57 #[.slice (some ⟨g, 0, none⟩) n c, .int .i64 ((i : Nat) : Int), .slice (some ⟨vb, 0, none⟩) 1 1] w fun e w' => ∃ A' c', e = .returned (.slice A' (n + 1) c') ∧ w'.ownsRow base 38 4 (.slice A' (n + 1) c') (n + 1) (pipesV (ps.take i ++ x :: ps.drop i)) ∧ w.grownBy w' (Value.slice (some ⟨g, 0, none⟩) n c).ownBlock ∧ ((Value.slice A' (n + 1) c').ownBlock = (Value.slice (some ⟨g, 0, none⟩) n c).ownBlock ∨ ∀ k, (Value.slice A' (n + 1) c').ownBlock = some k → w.heap.size ≤ k) := by
  have how := own_shut hb hh hnc hcm hcs hct (by rw [ins_len, hl])
  have hnb : Nb vb (.slice (some ⟨g, 0, none⟩) n c) := fun e => hvg (Option.some.inj e)
  go_enter Tryd.func57, Tryd.ntmps57
  refine wp_seq_k (fun K1 h1 => ?_)
  refine W.region_quiet [(0, false)] (by kernel_rfl) ?_
  refine W.as (v := .slice none 0 0) (h := ?_)
  refine W.endF 95 [(0, .slice (some ⟨g, 0, none⟩) n c), (1, .int .i64 ((i : Nat) : Int)), (2, .slice (some ⟨vb, 0, none⟩) 1 1), (6, .slice none 0 0)] (fun U1 => ?_)
  apply h1
  refine wp_seq_k (fun K2 h2 => ?_)
  refine W.region_quiet [(0, false), (1, false), (2, false)] (by kernel_rfl) ?_
  refine F.mv (v := .slice (some ⟨g, 0, none⟩) n c) (h := ?_)
  refine F.mv (v := .int .i64 ((i : Nat) : Int)) (h := ?_)
  refine F.q (v := .slice (sFrom (some ⟨g, 0, none⟩) c i 4) (n - i) (c - i)) (hr := (r_sliceFrom (A := (some ⟨g, 0, none⟩)) (n := n) (c := c) (k := i) (size := 4) rfl (ev_any (by kernel_rfl)) (ev_any (by kernel_rfl)) (by kernel_rfl) (by omega))) (h := ?_)
  refine F.endF [(0, .slice (some ⟨g, 0, none⟩) n c), (1, .int .i64 ((i : Nat) : Int)), (2, .slice (some ⟨vb, 0, none⟩) 1 1), (6, .slice none 0 0)] (fun U2 => ?_)
  apply h2
  refine wp_seq_k (fun K3 h3 => ?_)
  refine W.region_quiet [(0, false), (1, false), (2, false)] (by kernel_rfl) ?_
  refine F.mv (v := .slice (some ⟨vb, 0, none⟩) 1 1) (h := ?_)
  refine F.q (v := .int .i64 1) (hr := (r_len (A := (some ⟨vb, 0, none⟩)) (n := 1) (c := 1) rfl (ev_any (by kernel_rfl)) (by kernel_rfl))) (h := ?_)
  refine F.as (v := .int .i64 1) (h := ?_)
  refine F.endF [(0, .slice (some ⟨g, 0, none⟩) n c), (1, .int .i64 ((i : Nat) : Int)), (2, .slice (some ⟨vb, 0, none⟩) 1 1), (6, .slice none 0 0), (7, .int .i64 1)] (fun U3 => ?_)
  apply h3
  refine wp_seq_k (fun K4 h4 => ?_)
  refine wp_seq_k (fun K5 h5 => ?_)
  refine W.region_quiet [(0, false), (1, false)] (by kernel_rfl) ?_
  refine F.mv (v := .int .i64 1) (h := ?_)
  refine F.q (v := .bool false) (hr := (r_eql (m := 1) (n := 0) rfl (ev_any (by kernel_rfl)) (ev_any (by kernel_rfl)) (df (by decide)))) (h := ?_)
  refine F.endF [(0, .slice (some ⟨g, 0, none⟩) n c), (1, .int .i64 ((i : Nat) : Int)), (2, .slice (some ⟨vb, 0, none⟩) 1 1), (6, .slice none 0 0), (7, .int .i64 1), (16, .bool false)] (fun U4 => ?_)
  apply h5
  refine wp_cond_false (by kernel_rfl) ?_
  apply wp_skip
  apply h4
  refine wp_seq_k (fun K6 h6 => ?_)
  refine W.region_quiet [(0, false), (1, false), (2, false)] (by kernel_rfl) ?_
  refine F.mv (v := .slice (some ⟨g, 0, none⟩) n c) (h := ?_)
  refine F.q (v := .int .i64 ((n : Nat) : Int)) (hr := (r_len (A := (some ⟨g, 0, none⟩)) (n := n) (c := c) rfl (ev_any (by kernel_rfl)) (by kernel_rfl))) (h := ?_)
  refine F.as (v := .int .i64 ((n : Nat) : Int)) (h := ?_)
  refine F.endF [(0, .slice (some ⟨g, 0, none⟩) n c), (1, .int .i64 ((i : Nat) : Int)), (2, .slice (some ⟨vb, 0, none⟩) 1 1), (6, .slice none 0 0), (7, .int .i64 1), (8, .int .i64 ((n : Nat) : Int)), (16, .bool false)] (fun U5 => ?_)
  apply h6
  refine wp_seq_k (fun K7 h7 => ?_)
  refine wp_seq_k (fun K8 h8 => ?_)
  refine W.region_quiet [(0, false), (1, false), (2, false)] (by kernel_rfl) ?_
  refine F.mv (v := .int .i64 ((i : Nat) : Int)) (h := ?_)
  refine F.mv (v := .int .i64 ((n : Nat) : Int)) (h := ?_)
  by_cases q6 : (((i : Nat) : Int) : Int) = (((n : Nat) : Int) : Int)
  · refine F.q (v := .bool true) (hr := (r_eql (m := ((i : Nat) : Int)) (n := ((n : Nat) : Int)) rfl (ev_any (by kernel_rfl)) (ev_any (by kernel_rfl)) (dt q6))) (h := ?_)
    refine F.endF [(0, .slice (some ⟨g, 0, none⟩) n c), (1, .int .i64 ((i : Nat) : Int)), (2, .slice (some ⟨vb, 0, none⟩) 1 1), (6, .slice none 0 0), (7, .int .i64 1), (8, .int .i64 ((n : Nat) : Int)), (16, .bool false), (22, .bool true)] (fun U7 => ?_)
    apply h8
    refine wp_cond_true (by kernel_rfl) ?_
    refine wp_seq_k (fun K9 h9 => ?_)
    refine W.region_plain (row := (Value.ownBlock (.slice (some ⟨g, 0, none⟩) n c))) [(0, false), (1, false), (2, true), (3, false)] (by kernel_rfl) ?_
    have s8 := SG.self w (Value.ownBlock (.slice (some ⟨g, 0, none⟩) n c))
    refine F.mv (v := .slice (some ⟨g, 0, none⟩) n c) (h := ?_)
    refine F.mv (v := .slice (some ⟨vb, 0, none⟩) 1 1) (h := ?_)
    refine W.sap (e := 38) (size := 4) (base := base) (m := 1) (v := .slice (some ⟨g, 0, none⟩) n c) (c := 1) s8 rfl rfl rfl rfl (by kernel_rfl) (by kernel_rfl) (by kernel_rfl) how hv (by kernel_rfl) (by kernel_rfl) (by omega) (by omega) (by have := ((SG.fr (B := g) (World.grownBy.refl _ _) s8 (fun kq e => .inl (Option.some.inj e).symm))).size; omega) (.inl rfl) (fun g9 cap10 w11 ho12 hg13 hat14 hlt15 s16 => ?_)
    apply F.nx
    have nb17 : Nb vb (.slice (some ⟨g9, 0, none⟩) (n + 1) cap10) := nb_app hnb (Nat.lt_of_lt_of_le (blk_lt hv) (s8).size) hat14
    have ho12 := own_snocP (x := x) ho12
    refine F.as (v := .slice (some ⟨g9, 0, none⟩) (n + 1) cap10) (h := ?_)
    refine F.endF [(0, .slice (some ⟨g, 0, none⟩) n c), (1, .int .i64 ((i : Nat) : Int)), (2, .slice (some ⟨vb, 0, none⟩) 1 1), (6, .slice (some ⟨g9, 0, none⟩) (n + 1) cap10), (7, .int .i64 1), (8, .int .i64 ((n : Nat) : Int)), (16, .bool false), (22, .bool true)] (fun U18 => ?_)
    have hv := Sk s16 hv hnb
    have c19 := (SG.fr (B := g) (World.grownBy.refl _ _) s16 (fun kq e => .inl (Option.some.inj e).symm))
    apply h9
    refine wp_ret ?_
    try simp only [Exit.then]
    refine ret1 (v := .slice (some ⟨g9, 0, none⟩) (n + 1) cap10) rfl (by kernel_rfl) ?_
    have hpl := ins_end (x := x) hl (by omega : (i : Int) = (n : Int))
    refine ⟨_, _, rfl, by rw [← hpl]; exact ho12, c19, ?_⟩
    first | exact hat3 (by assumption) | (rename_i hat9; exact hat3 hat9) | (show _ ∨ _; simp_all [Value.ownBlock])
  · refine F.q (v := .bool false) (hr := (r_eql (m := ((i : Nat) : Int)) (n := ((n : Nat) : Int)) rfl (ev_any (by kernel_rfl)) (ev_any (by kernel_rfl)) (df q6))) (h := ?_)
    refine F.endF [(0, .slice (some ⟨g, 0, none⟩) n c), (1, .int .i64 ((i : Nat) : Int)), (2, .slice (some ⟨vb, 0, none⟩) 1 1), (6, .slice none 0 0), (7, .int .i64 1), (8, .int .i64 ((n : Nat) : Int)), (16, .bool false), (22, .bool false)] (fun U20 => ?_)
    apply h8
    refine wp_cond_false (by kernel_rfl) ?_
    apply wp_skip
    apply h7
    refine wp_seq_k (fun K10 h10 => ?_)
    refine wp_seq_k (fun K11 h11 => ?_)
    refine W.region_quiet [(0, false), (1, false), (2, false), (3, false), (4, false), (5, false)] (by kernel_rfl) ?_
    refine F.mv (v := .int .i64 ((n : Nat) : Int)) (h := ?_)
    refine F.mv (v := .int .i64 1) (h := ?_)
    refine F.q (v := .int .i64 ((n + 1 : Nat) : Int)) (hr := (r_add (m := ((n : Nat) : Int)) (n := 1) (z := ((n + 1 : Nat) : Int)) rfl (ev_any (by kernel_rfl)) (ev_any (by kernel_rfl)) (by omega) (by omega))) (h := ?_)
    refine F.mv (v := .slice (some ⟨g, 0, none⟩) n c) (h := ?_)
    refine F.q (v := .int .i64 ((c : Nat) : Int)) (hr := (r_capS (A := (some ⟨g, 0, none⟩)) (n := n) (c := c) rfl (ev_any (by kernel_rfl)) (by kernel_rfl))) (h := ?_)
    by_cases q21 : (((n + 1 : Nat) : Int) : Int) > (((c : Nat) : Int) : Int)
    · have hrl : (pipesV (ps.drop i)).length = (n - i) * 4 := by rw [ins_len, List.length_drop, hl]
      have htk : cur.toList.take (i * 4) = pipesV (ps.take i) := by rw [ins_take, ← hct, List.take_take, Nat.min_eq_left (by omega)]
      have hdr : (cur.toList.take (n * 4)).drop (i * 4) = pipesV (ps.drop i) := by rw [hct, ← ins_drop]
      have hin : i < n := by omega
      refine F.q (v := .bool true) (hr := (r_gtr (m := ((n + 1 : Nat) : Int)) (n := ((c : Nat) : Int)) rfl (ev_any (by kernel_rfl)) (ev_any (by kernel_rfl)) (dt q21))) (h := ?_)
      refine F.endF [(0, .slice (some ⟨g, 0, none⟩) n c), (1, .int .i64 ((i : Nat) : Int)), (2, .slice (some ⟨vb, 0, none⟩) 1 1), (6, .slice none 0 0), (7, .int .i64 1), (8, .int .i64 ((n : Nat) : Int)), (16, .bool false), (22, .bool false), (31, .bool true)] (fun U22 => ?_)
      apply h11
      refine wp_cond_true (by kernel_rfl) ?_
      refine wp_seq_k (fun K12 h12 => ?_)
      refine W.region_plain (row := (Value.ownBlock (.slice (some ⟨g, 0, none⟩) n c))) [(0, false), (1, false), (2, false), (3, false), (4, false), (5, false), (6, false), (7, false), (8, true), (9, false)] (by kernel_rfl) ?_
      have s23 := SG.self w (Value.ownBlock (.slice (some ⟨g, 0, none⟩) n c))
      refine F.mv (v := .slice (some ⟨g, 0, none⟩) n c) (h := ?_)
      refine F.mv (v := .int .i64 ((i : Nat) : Int)) (h := ?_)
      refine F.q (v := .slice (some ⟨g, 0, none⟩) i c) (hr := (r_sliceTo (A := (some ⟨g, 0, none⟩)) (n := n) (c := c) (k := i) (size := 4) rfl (ev_any (by kernel_rfl)) (ev_any (by kernel_rfl)) (by kernel_rfl) (by omega))) (h := ?_)
      refine F.mv (v := .int .i64 ((n : Nat) : Int)) (h := ?_)
      refine F.mv (v := .int .i64 1) (h := ?_)
      refine F.q (v := .int .i64 ((n + 1 : Nat) : Int)) (hr := (r_add (m := ((n : Nat) : Int)) (n := 1) (z := ((n + 1 : Nat) : Int)) rfl (ev_any (by kernel_rfl)) (ev_any (by kernel_rfl)) (by omega) (by omega))) (h := ?_)
      refine F.mv (v := .int .i64 ((i : Nat) : Int)) (h := ?_)
      refine F.q (v := .int .i64 ((n + 1 - i : Nat) : Int)) (hr := (r_sub (m := ((n + 1 : Nat) : Int)) (n := ((i : Nat) : Int)) (z := ((n + 1 - i : Nat) : Int)) rfl (ev_any (by kernel_rfl)) (ev_any (by kernel_rfl)) (by omega) (by omega))) (h := ?_)
      obtain ⟨c9, cur9, hr9, hs9, hc9, hm9, ht9⟩ := run_zeros w 3 22 .i64 (by kernel_rfl) g i c (n + 1 - i) cur hh hcs (by omega) (by omega) (by omega) (by omega)
      have hn9 : i + (n + 1 - i) = n + 1 := by omega
      rw [hn9] at hr9 hc9
      have s25 := SG.of_grown s23 (grown_da w (.cells cur9 38) (some g)) (.inl rfl)
      refine W.lv (v := .slice (some ⟨w.heap.size, 0, none⟩) (n + 1) c9) (w' := w.drew.alloc (.cells cur9 38)) rfl (by kernel_rfl) rfl (run_appendOp (x := .slice (some ⟨g, 0, none⟩) i c) (y := .int .i64 ((n + 1 - i : Nat) : Int)) rfl (by kernel_rfl) (by kernel_rfl) hr9) s25 ?_
      apply F.nx
      have hx9 := da_new w (.cells cur9 38)
      have ho9 : (w.drew.alloc (.cells cur9 38)).heap[g]? = some (.cells cur 38 (0, 0)) := (Below.heap_alloc w.drew _ g (blk_lt hh)).trans hh
      have hlg : g < w.heap.size := blk_lt hh
      have hlv : vb < w.heap.size := blk_lt hv
      have hb8 := ((SG.fr (B := g) (World.grownBy.refl _ _) s23 (fun kq e => .inl (Option.some.inj e).symm))).size
      obtain ⟨g9, hg9⟩ : ∃ g9, g9 = w.heap.size := ⟨_, rfl⟩
      have hb9 : w.heap.size ≤ g9 := by rw [hg9]; exact hb8
      rw [← hg9] at hx9 hlg hlv ⊢
      obtain ⟨w24, hw9⟩ : ∃ w2, w2 = w.drew.alloc (.cells cur9 38) := ⟨_, rfl⟩
      rw [← hw9] at hx9 ho9 s25 ⊢
      clear hw9 hr9
      have how9 := own_shut (n := n + 1) hb9 hx9 hc9 hm9 hs9 rfl (by rw [List.length_take, Array.length_toList, hs9]; omega)
      have nbv : Nb vb (.slice (some ⟨g9, 0, none⟩) (n + 1) c9) := fun e => by have := Option.some.inj e; simp only at this; omega
      have nbo : Nb g (.slice (some ⟨g9, 0, none⟩) (n + 1) c9) := fun e => by have := Option.some.inj e; simp only at this; omega
      refine F.as (v := .slice (some ⟨g9, 0, none⟩) (n + 1) c9) (h := ?_)
      refine F.endF [(0, .slice (some ⟨g, 0, none⟩) n c), (1, .int .i64 ((i : Nat) : Int)), (2, .slice (some ⟨vb, 0, none⟩) 1 1), (6, .slice none 0 0), (7, .int .i64 1), (8, .int .i64 ((n : Nat) : Int)), (9, .slice (some ⟨g9, 0, none⟩) (n + 1) c9), (16, .bool false), (22, .bool false), (31, .bool true)] (fun U26 => ?_)
      have hv := Sk s25 hv hnb
      have c27 := (SG.fr (B := g) (World.grownBy.refl _ _) s25 (fun kq e => .inl (Option.some.inj e).symm))
      apply h12
      refine wp_seq_k (fun K13 h13 => ?_)
      refine W.region_plain (row := (Value.ownBlock (.slice (some ⟨g9, 0, none⟩) (n + 1) c9))) [(0, false), (1, false), (2, false), (3, false), (4, true)] (by kernel_rfl) ?_
      have s28 := SG.self w24 (Value.ownBlock (.slice (some ⟨g9, 0, none⟩) (n + 1) c9))
      refine F.mv (v := .slice (some ⟨g9, 0, none⟩) (n + 1) c9) (h := ?_)
      refine F.mv (v := .int .i64 ((i : Nat) : Int)) (h := ?_)
      have hsf29 : sFrom (some ⟨g9, 0, none⟩) c9 (i) 4 = some ⟨g9, (i) * 4, none⟩ := by unfold sFrom; rw [if_neg (by omega)]; show some (Addr.add ⟨g9, 0, none⟩ ((i) * 4)) = _; rw [Addr.add_lit, Nat.zero_add]
      refine F.q (v := .slice (some ⟨g9, (i) * 4, none⟩) ((n + 1) - (i)) (c9 - (i))) (hr := (r_sliceFrome (A := (some ⟨g9, 0, none⟩)) (n := (n + 1)) (c := c9) (k := i) (size := 4) rfl (ev_any (by kernel_rfl)) (ev_any (by kernel_rfl)) (by kernel_rfl) (by omega) hsf29)) (h := ?_)
      refine F.mv (v := .slice (some ⟨vb, 0, none⟩) 1 1) (h := ?_)
      obtain ⟨cur32, hc33⟩ : ∃ cur32 : Array Value, cur32 = (spl cur9.toList ((i) * 4) (x.vals)).toArray := ⟨_, rfl⟩
      have s31 := SG.of_grown s28 (grown_row (w := w24) (g := g9) (cs := cur32)) (.inl rfl)
      refine W.lv (v := .int .i64 ((Nat.min (1) (n + 1 - (i)) : Nat) : Int)) (w' := w24.setRow g9 cur32) rfl (by kernel_rfl) rfl (run_copyOp (x := .slice (some ⟨g9, (i) * 4, none⟩) (n + 1 - (i)) (c9 - (i))) (y := .slice (some ⟨vb, 0, none⟩) (1) (1)) rfl (by kernel_rfl) (by kernel_rfl) (by rw [hc33]; exact run_copy_blk _ _ _ _ 38 g9 ((i) * 4) _ _ ⟨vb, 0, none⟩ _ _ 4 (x.vals) cur9 _ (by kernel_rfl) (by kernel_rfl) (by rw [x_len, show Nat.min (1) (n + 1 - (i)) = 1 from by show min (1) (n + 1 - (i)) = 1; rw [Nat.min_def]; split <;> omega]) (fun j u hj => by rw [Addr.add_lit, Nat.zero_add]; exact blk_cell (j := j) (Sk s28 hv nbv) (by simpa [Pp.vals] using hj)) hx9 (by rw [x_len, hs9]; omega) (x_one x))) s31 ?_
      apply F.nx
      have hx34 : (w24.setRow g9 cur32).heap[g9]? = some (.cells cur32 38 (0, 0)) := setRow_heap w24 g9 cur9 cur32 38 (0, 0) hx9
      have hs35 : cur32.size = c9 * 4 := by rw [hc33, List.size_toArray, spl_len (by rw [x_len, Array.length_toList, hs9]; omega), Array.length_toList, hs9]
      obtain ⟨w30, hw9⟩ : ∃ w2, w2 = w24.setRow g9 cur32 := ⟨_, rfl⟩
      rw [← hw9] at hx34 s31 ⊢
      clear hw9
      have ho36 := own_shut (n := n + 1) hb9 hx34 (by omega) hm9 hs35 rfl (by rw [List.length_take, Array.length_toList, hs35]; omega)
      refine F.endF [(0, .slice (some ⟨g, 0, none⟩) n c), (1, .int .i64 ((i : Nat) : Int)), (2, .slice (some ⟨vb, 0, none⟩) 1 1), (6, .slice none 0 0), (7, .int .i64 1), (8, .int .i64 ((n : Nat) : Int)), (9, .slice (some ⟨g9, 0, none⟩) (n + 1) c9), (16, .bool false), (22, .bool false), (31, .bool true)] (fun U37 => ?_)
      have hv := Sk s31 hv nbv
      have ho9 := Sk s31 ho9 nbo
      have c38 := (SG.fr (B := g) c27 s31 (fun kq e => .inr (World.ownsRow.lt how9 kq e).1))
      apply h13
      refine wp_seq_k (fun K14 h14 => ?_)
      refine W.region_sch (row := (Value.ownBlock (.slice (some ⟨g9, 0, none⟩) (n + 1) c9))) (Sch.of [(0, false), (1, false), (2, false), (3, false), (4, false), (5, false), (6, false), (7, false), (8, true)]) (by kernel_rfl) (by kernel_rfl) (fun _ d _ _ _ h => by cases d <;> exact h) (by kernel_rfl) (fun w39 e40 s41 => ?_)
      have ho42 := own_heap ho36 e40
      refine F.mv (v := .slice (some ⟨g9, 0, none⟩) (n + 1) c9) (h := ?_)
      refine F.mv (v := .int .i64 ((i : Nat) : Int)) (h := ?_)
      refine F.mv (v := .int .i64 1) (h := ?_)
      refine F.q (v := .int .i64 ((i + 1 : Nat) : Int)) (hr := (r_add (m := ((i : Nat) : Int)) (n := 1) (z := ((i + 1 : Nat) : Int)) rfl (ev_any (by kernel_rfl)) (ev_any (by kernel_rfl)) (by omega) (by omega))) (h := ?_)
      have hsf43 : sFrom (some ⟨g9, 0, none⟩) c9 (i + 1) 4 = some ⟨g9, (i + 1) * 4, none⟩ := by unfold sFrom; rw [if_neg (by omega)]; show some (Addr.add ⟨g9, 0, none⟩ ((i + 1) * 4)) = _; rw [Addr.add_lit, Nat.zero_add]
      refine F.q (v := .slice (some ⟨g9, (i + 1) * 4, none⟩) ((n + 1) - (i + 1)) (c9 - (i + 1))) (hr := (r_sliceFrome (A := (some ⟨g9, 0, none⟩)) (n := (n + 1)) (c := c9) (k := i + 1) (size := 4) rfl (ev_any (by kernel_rfl)) (ev_any (by kernel_rfl)) (by kernel_rfl) (by omega) hsf43)) (h := ?_)
      refine F.mv (v := .slice (some ⟨g, 0, none⟩) n c) (h := ?_)
      refine F.mv (v := .int .i64 ((i : Nat) : Int)) (h := ?_)
      have hsf44 : sFrom (some ⟨g, 0, none⟩) c (i) 4 = some ⟨g, (i) * 4, none⟩ := by unfold sFrom; rw [if_neg (by omega)]; show some (Addr.add ⟨g, 0, none⟩ ((i) * 4)) = _; rw [Addr.add_lit, Nat.zero_add]
      refine F.q (v := .slice (some ⟨g, (i) * 4, none⟩) (n - (i)) (c - (i))) (hr := (r_sliceFrome (A := (some ⟨g, 0, none⟩)) (n := n) (c := c) (k := i) (size := 4) rfl (ev_any (by kernel_rfl)) (ev_any (by kernel_rfl)) (by kernel_rfl) (by omega) hsf44)) (h := ?_)
      have hk45 := heap_same e40 hx34
      obtain ⟨cur48, hc49⟩ : ∃ cur48 : Array Value, cur48 = (spl cur32.toList ((i + 1) * 4) (pipesV (ps.drop i))).toArray := ⟨_, rfl⟩
      have s47 := SG.of_grown s41 (grown_row (w := w39) (g := g9) (cs := cur48)) (.inl rfl)
      refine W.lv (v := .int .i64 ((Nat.min (n - (i)) (n + 1 - (i + 1)) : Nat) : Int)) (w' := w39.setRow g9 cur48) rfl (by kernel_rfl) rfl (run_copyOp (x := .slice (some ⟨g9, (i + 1) * 4, none⟩) (n + 1 - (i + 1)) (c9 - (i + 1))) (y := .slice (some ⟨g, (i) * 4, none⟩) (n - (i)) (c - (i))) rfl (by kernel_rfl) (by kernel_rfl) (by rw [hc49]; exact run_copy_blk _ _ _ _ 38 g9 ((i + 1) * 4) _ _ ⟨g, (i) * 4, none⟩ _ _ 4 (pipesV (ps.drop i)) cur32 _ (by kernel_rfl) (by kernel_rfl) (by rw [hrl, show Nat.min (n - (i)) (n + 1 - (i + 1)) = n - i from by show min (n - (i)) (n + 1 - (i + 1)) = n - i; rw [Nat.min_def]; split <;> omega]) (cells_at (Sk s41 ho9 nbo) hdr) hk45 (by rw [hrl, hs35]; omega) (ins_one _))) s47 ?_
      apply F.nx
      have hx50 : (w39.setRow g9 cur48).heap[g9]? = some (.cells cur48 38 (0, 0)) := setRow_heap w39 g9 cur32 cur48 38 (0, 0) hk45
      have hs51 : cur48.size = c9 * 4 := by rw [hc49, List.size_toArray, spl_len (by rw [hrl, Array.length_toList, hs35]; omega), Array.length_toList, hs35]
      obtain ⟨w46, hw9⟩ : ∃ w2, w2 = w39.setRow g9 cur48 := ⟨_, rfl⟩
      rw [← hw9] at hx50 s47 ⊢
      clear hw9
      have ho52 := own_shut (n := n + 1) hb9 hx50 (by omega) hm9 hs51 rfl (by rw [List.length_take, Array.length_toList, hs51]; omega)
      refine F.endF [(0, .slice (some ⟨g, 0, none⟩) n c), (1, .int .i64 ((i : Nat) : Int)), (2, .slice (some ⟨vb, 0, none⟩) 1 1), (6, .slice none 0 0), (7, .int .i64 1), (8, .int .i64 ((n : Nat) : Int)), (9, .slice (some ⟨g9, 0, none⟩) (n + 1) c9), (16, .bool false), (22, .bool false), (31, .bool true)] (fun U53 => ?_)
      have hv := Sk s47 hv nbv
      have ho9 := Sk s47 ho9 nbo
      have c54 := (SG.fr (B := g) c38 s47 (fun kq e => .inr (World.ownsRow.lt ho36 kq e).1))
      apply h14
      refine wp_seq_k (fun K15 h15 => ?_)
      refine W.region_quiet [(0, false), (1, false)] (by kernel_rfl) ?_
      refine F.mv (v := .slice (some ⟨g9, 0, none⟩) (n + 1) c9) (h := ?_)
      refine F.as (v := .slice (some ⟨g9, 0, none⟩) (n + 1) c9) (h := ?_)
      refine F.endF [(0, .slice (some ⟨g, 0, none⟩) n c), (1, .int .i64 ((i : Nat) : Int)), (2, .slice (some ⟨vb, 0, none⟩) 1 1), (6, .slice (some ⟨g9, 0, none⟩) (n + 1) c9), (7, .int .i64 1), (8, .int .i64 ((n : Nat) : Int)), (9, .slice (some ⟨g9, 0, none⟩) (n + 1) c9), (16, .bool false), (22, .bool false), (31, .bool true)] (fun U55 => ?_)
      apply h15
      refine wp_ret ?_
      try simp only [Exit.then]
      refine ret1 (v := .slice (some ⟨g9, 0, none⟩) (n + 1) c9) rfl (by kernel_rfl) ?_
      have hfin : cur48.toList.take ((n + 1) * 4) = pipesV (ps.take i ++ x :: ps.drop i) := by rw [hc49, hc33]; exact (ins_A (L := cur9.toList) (X := x.vals) (by rw [Array.length_toList, hs9]; omega) (Nat.le_of_lt hin) (ht9.trans htk) rfl hrl).trans (ins_fin ps x i)
      exact ⟨_, _, rfl, own_shut (Nl hbs hb9) hx50 (by omega) hm9 hs51 hfin (by rw [ins_len, List.length_append, List.length_cons, List.length_take, List.length_drop, hl]; omega), c54, (.inr (fun k e => by have := Option.some.inj e; simp only at this; omega))⟩
    · have hrl : (pipesV (ps.drop i)).length = (n - i) * 4 := by rw [ins_len, List.length_drop, hl]
      have htk : cur.toList.take (i * 4) = pipesV (ps.take i) := by rw [ins_take, ← hct, List.take_take, Nat.min_eq_left (by omega)]
      have hdr : (cur.toList.take (n * 4)).drop (i * 4) = pipesV (ps.drop i) := by rw [hct, ← ins_drop]
      have hin : i < n := by omega
      refine F.q (v := .bool false) (hr := (r_gtr (m := ((n + 1 : Nat) : Int)) (n := ((c : Nat) : Int)) rfl (ev_any (by kernel_rfl)) (ev_any (by kernel_rfl)) (df q21))) (h := ?_)
      refine F.endF [(0, .slice (some ⟨g, 0, none⟩) n c), (1, .int .i64 ((i : Nat) : Int)), (2, .slice (some ⟨vb, 0, none⟩) 1 1), (6, .slice none 0 0), (7, .int .i64 1), (8, .int .i64 ((n : Nat) : Int)), (16, .bool false), (22, .bool false), (31, .bool false)] (fun U56 => ?_)
      apply h11
      refine wp_cond_false (by kernel_rfl) ?_
      apply wp_skip
      apply h10
      refine wp_seq_k (fun K16 h16 => ?_)
      refine W.region_quiet [(0, false), (1, false), (2, false), (3, false), (4, false), (5, false)] (by kernel_rfl) ?_
      refine F.mv (v := .slice (some ⟨g, 0, none⟩) n c) (h := ?_)
      refine F.mv (v := .int .i64 ((n : Nat) : Int)) (h := ?_)
      refine F.mv (v := .int .i64 1) (h := ?_)
      refine F.q (v := .int .i64 ((n + 1 : Nat) : Int)) (hr := (r_add (m := ((n : Nat) : Int)) (n := 1) (z := ((n + 1 : Nat) : Int)) rfl (ev_any (by kernel_rfl)) (ev_any (by kernel_rfl)) (by omega) (by omega))) (h := ?_)
      refine F.q (v := .slice (some ⟨g, 0, none⟩) (n + 1) c) (hr := (r_sliceTo (A := (some ⟨g, 0, none⟩)) (n := n) (c := c) (k := (n + 1)) (size := 4) rfl (ev_any (by kernel_rfl)) (ev_any (by kernel_rfl)) (by kernel_rfl) (by omega))) (h := ?_)
      refine F.as (v := .slice (some ⟨g, 0, none⟩) (n + 1) c) (h := ?_)
      refine F.endF [(0, .slice (some ⟨g, 0, none⟩) (n + 1) c), (1, .int .i64 ((i : Nat) : Int)), (2, .slice (some ⟨vb, 0, none⟩) 1 1), (6, .slice none 0 0), (7, .int .i64 1), (8, .int .i64 ((n : Nat) : Int)), (16, .bool false), (22, .bool false), (31, .bool false)] (fun U57 => ?_)
      apply h16
      refine wp_seq_k (fun K17 h17 => ?_)
      refine wp_seq_k (fun K18 h18 => ?_)
      refine W.region_plain (row := none) [(0, false), (1, false), (2, false), (3, false), (4, false), (5, false), (6, true), (7, false)] (by kernel_rfl) ?_
      have s58 := SG.self w none
      refine F.mv (v := .slice (some ⟨vb, 0, none⟩) 1 1) (h := ?_)
      refine F.mv (v := .slice (some ⟨g, 0, none⟩) (n + 1) c) (h := ?_)
      refine F.mv (v := .int .i64 ((i : Nat) : Int)) (h := ?_)
      refine F.mv (v := .int .i64 1) (h := ?_)
      refine F.q (v := .int .i64 ((i + 1 : Nat) : Int)) (hr := (r_add (m := ((i : Nat) : Int)) (n := 1) (z := ((i + 1 : Nat) : Int)) rfl (ev_any (by kernel_rfl)) (ev_any (by kernel_rfl)) (by omega) (by omega))) (h := ?_)
      have hsf59 : sFrom (some ⟨g, 0, none⟩) c (i + 1) 4 = some ⟨g, (i + 1) * 4, none⟩ := by unfold sFrom; rw [if_neg (by omega)]; show some (Addr.add ⟨g, 0, none⟩ ((i + 1) * 4)) = _; rw [Addr.add_lit, Nat.zero_add]
      refine F.q (v := .slice (some ⟨g, (i + 1) * 4, none⟩) ((n + 1) - (i + 1)) (c - (i + 1))) (hr := (r_sliceFrome (A := (some ⟨g, 0, none⟩)) (n := (n + 1)) (c := c) (k := i + 1) (size := 4) rfl (ev_any (by kernel_rfl)) (ev_any (by kernel_rfl)) (by kernel_rfl) (by omega) hsf59)) (h := ?_)
      refine W.lv (v := .bool false) (w' := w) rfl (by kernel_rfl) rfl (run_externOp (vs := [.slice (some ⟨vb, 0, none⟩) 1 1, .slice (some ⟨g, (i + 1) * 4, none⟩) ((n + 1) - (i + 1)) (c - (i + 1))]) rfl (by kernel_rfl) (ov_run w vb g ((i + 1) * 4) 1 1 (n + 1 - (i + 1)) (c - (i + 1)) _ cur hv hh hvg (by rw [hcs]; omega))) s58 ?_
      apply F.nx
      refine F.q (v := .bool true) (hr := (r_not (b := false) rfl (ev_any (by kernel_rfl)) rfl)) (h := ?_)
      refine F.endF [(0, .slice (some ⟨g, 0, none⟩) (n + 1) c), (1, .int .i64 ((i : Nat) : Int)), (2, .slice (some ⟨vb, 0, none⟩) 1 1), (6, .slice none 0 0), (7, .int .i64 1), (8, .int .i64 ((n : Nat) : Int)), (16, .bool false), (22, .bool false), (31, .bool false), (68, .bool true)] (fun U60 => ?_)
      have hv := Sk s58 hv onn
      have c61 := (SG.fr (B := g) (World.grownBy.refl _ _) s58 nkk)
      apply h18
      refine wp_cond_true (by kernel_rfl) ?_
      refine wp_seq_k (fun K19 h19 => ?_)
      refine W.region_sch (row := (Value.ownBlock (.slice (some ⟨g, 0, none⟩) n c))) (Sch.of [(0, false), (1, false), (2, false), (3, false), (4, false), (5, false), (6, false), (7, false), (8, true)]) (by kernel_rfl) (by kernel_rfl) (fun _ d _ _ _ h => by cases d <;> exact h) (by kernel_rfl) (fun w62 e63 s64 => ?_)
      have ho65 := own_heap how e63
      refine F.mv (v := .slice (some ⟨g, 0, none⟩) (n + 1) c) (h := ?_)
      refine F.mv (v := .int .i64 ((i : Nat) : Int)) (h := ?_)
      refine F.mv (v := .int .i64 1) (h := ?_)
      refine F.q (v := .int .i64 ((i + 1 : Nat) : Int)) (hr := (r_add (m := ((i : Nat) : Int)) (n := 1) (z := ((i + 1 : Nat) : Int)) rfl (ev_any (by kernel_rfl)) (ev_any (by kernel_rfl)) (by omega) (by omega))) (h := ?_)
      have hsf66 : sFrom (some ⟨g, 0, none⟩) c (i + 1) 4 = some ⟨g, (i + 1) * 4, none⟩ := by unfold sFrom; rw [if_neg (by omega)]; show some (Addr.add ⟨g, 0, none⟩ ((i + 1) * 4)) = _; rw [Addr.add_lit, Nat.zero_add]
      refine F.q (v := .slice (some ⟨g, (i + 1) * 4, none⟩) ((n + 1) - (i + 1)) (c - (i + 1))) (hr := (r_sliceFrome (A := (some ⟨g, 0, none⟩)) (n := (n + 1)) (c := c) (k := i + 1) (size := 4) rfl (ev_any (by kernel_rfl)) (ev_any (by kernel_rfl)) (by kernel_rfl) (by omega) hsf66)) (h := ?_)
      refine F.mv (v := .slice (some ⟨g, 0, none⟩) (n + 1) c) (h := ?_)
      refine F.mv (v := .int .i64 ((i : Nat) : Int)) (h := ?_)
      have hsf67 : sFrom (some ⟨g, 0, none⟩) c (i) 4 = some ⟨g, (i) * 4, none⟩ := by unfold sFrom; rw [if_neg (by omega)]; show some (Addr.add ⟨g, 0, none⟩ ((i) * 4)) = _; rw [Addr.add_lit, Nat.zero_add]
      refine F.q (v := .slice (some ⟨g, (i) * 4, none⟩) ((n + 1) - (i)) (c - (i))) (hr := (r_sliceFrome (A := (some ⟨g, 0, none⟩)) (n := (n + 1)) (c := c) (k := i) (size := 4) rfl (ev_any (by kernel_rfl)) (ev_any (by kernel_rfl)) (by kernel_rfl) (by omega) hsf67)) (h := ?_)
      have hk68 := heap_same e63 hh
      obtain ⟨cur71, hc72⟩ : ∃ cur71 : Array Value, cur71 = (spl cur.toList ((i + 1) * 4) (pipesV (ps.drop i))).toArray := ⟨_, rfl⟩
      have s70 := SG.of_grown s64 (grown_row (w := w62) (g := g) (cs := cur71)) (.inl rfl)
      refine W.lv (v := .int .i64 ((Nat.min (n + 1 - (i)) (n + 1 - (i + 1)) : Nat) : Int)) (w' := w62.setRow g cur71) rfl (by kernel_rfl) rfl (run_copyOp (x := .slice (some ⟨g, (i + 1) * 4, none⟩) (n + 1 - (i + 1)) (c - (i + 1))) (y := .slice (some ⟨g, (i) * 4, none⟩) (n + 1 - (i)) (c - (i))) rfl (by kernel_rfl) (by kernel_rfl) (by rw [hc72]; exact run_copy_blk _ _ _ _ 38 g ((i + 1) * 4) _ _ ⟨g, (i) * 4, none⟩ _ _ 4 (pipesV (ps.drop i)) cur _ (by kernel_rfl) (by kernel_rfl) (by rw [hrl, show Nat.min (n + 1 - (i)) (n + 1 - (i + 1)) = n - i from by show min (n + 1 - (i)) (n + 1 - (i + 1)) = n - i; rw [Nat.min_def]; split <;> omega]) (cells_at hk68 hdr) hk68 (by rw [hrl, hcs]; omega) (ins_one _))) s70 ?_
      apply F.nx
      have hx73 : (w62.setRow g cur71).heap[g]? = some (.cells cur71 38 (0, 0)) := setRow_heap w62 g cur cur71 38 (0, 0) hk68
      have hs74 : cur71.size = c * 4 := by rw [hc72, List.size_toArray, spl_len (by rw [hrl, Array.length_toList, hcs]; omega), Array.length_toList, hcs]
      obtain ⟨w69, hw9⟩ : ∃ w2, w2 = w62.setRow g cur71 := ⟨_, rfl⟩
      rw [← hw9] at hx73 s70 ⊢
      clear hw9
      have ho75 := own_shut (n := n + 1) hb hx73 (by omega) hcm hs74 rfl (by rw [List.length_take, Array.length_toList, hs74]; omega)
      refine F.endF [(0, .slice (some ⟨g, 0, none⟩) (n + 1) c), (1, .int .i64 ((i : Nat) : Int)), (2, .slice (some ⟨vb, 0, none⟩) 1 1), (6, .slice none 0 0), (7, .int .i64 1), (8, .int .i64 ((n : Nat) : Int)), (16, .bool false), (22, .bool false), (31, .bool false), (68, .bool true)] (fun U76 => ?_)
      have hv := Sk s70 hv hnb
      have c77 := (SG.fr (B := g) c61 s70 (fun kq e => .inl (Option.some.inj e).symm))
      apply h19
      refine wp_seq_k (fun K20 h20 => ?_)
      refine W.region_plain (row := (Value.ownBlock (.slice (some ⟨g, 0, none⟩) (n + 1) c))) [(0, false), (1, false), (2, false), (3, false), (4, true)] (by kernel_rfl) ?_
      have s78 := SG.self w69 (Value.ownBlock (.slice (some ⟨g, 0, none⟩) (n + 1) c))
      refine F.mv (v := .slice (some ⟨g, 0, none⟩) (n + 1) c) (h := ?_)
      refine F.mv (v := .int .i64 ((i : Nat) : Int)) (h := ?_)
      have hsf79 : sFrom (some ⟨g, 0, none⟩) c (i) 4 = some ⟨g, (i) * 4, none⟩ := by unfold sFrom; rw [if_neg (by omega)]; show some (Addr.add ⟨g, 0, none⟩ ((i) * 4)) = _; rw [Addr.add_lit, Nat.zero_add]
      refine F.q (v := .slice (some ⟨g, (i) * 4, none⟩) ((n + 1) - (i)) (c - (i))) (hr := (r_sliceFrome (A := (some ⟨g, 0, none⟩)) (n := (n + 1)) (c := c) (k := i) (size := 4) rfl (ev_any (by kernel_rfl)) (ev_any (by kernel_rfl)) (by kernel_rfl) (by omega) hsf79)) (h := ?_)
      refine F.mv (v := .slice (some ⟨vb, 0, none⟩) 1 1) (h := ?_)
      obtain ⟨cur82, hc83⟩ : ∃ cur82 : Array Value, cur82 = (spl cur71.toList ((i) * 4) (x.vals)).toArray := ⟨_, rfl⟩
      have s81 := SG.of_grown s78 (grown_row (w := w69) (g := g) (cs := cur82)) (.inl rfl)
      refine W.lv (v := .int .i64 ((Nat.min (1) (n + 1 - (i)) : Nat) : Int)) (w' := w69.setRow g cur82) rfl (by kernel_rfl) rfl (run_copyOp (x := .slice (some ⟨g, (i) * 4, none⟩) (n + 1 - (i)) (c - (i))) (y := .slice (some ⟨vb, 0, none⟩) (1) (1)) rfl (by kernel_rfl) (by kernel_rfl) (by rw [hc83]; exact run_copy_blk _ _ _ _ 38 g ((i) * 4) _ _ ⟨vb, 0, none⟩ _ _ 4 (x.vals) cur71 _ (by kernel_rfl) (by kernel_rfl) (by rw [x_len, show Nat.min (1) (n + 1 - (i)) = 1 from by show min (1) (n + 1 - (i)) = 1; rw [Nat.min_def]; split <;> omega]) (fun j u hj => by rw [Addr.add_lit, Nat.zero_add]; exact blk_cell (j := j) (Sk s78 hv hnb) (by simpa [Pp.vals] using hj)) hx73 (by rw [x_len, hs74]; omega) (x_one x))) s81 ?_
      apply F.nx
      have hx84 : (w69.setRow g cur82).heap[g]? = some (.cells cur82 38 (0, 0)) := setRow_heap w69 g cur71 cur82 38 (0, 0) hx73
      have hs85 : cur82.size = c * 4 := by rw [hc83, List.size_toArray, spl_len (by rw [x_len, Array.length_toList, hs74]; omega), Array.length_toList, hs74]
      obtain ⟨w80, hw9⟩ : ∃ w2, w2 = w69.setRow g cur82 := ⟨_, rfl⟩
      rw [← hw9] at hx84 s81 ⊢
      clear hw9
      have ho86 := own_shut (n := n + 1) hb hx84 (by omega) hcm hs85 rfl (by rw [List.length_take, Array.length_toList, hs85]; omega)
      refine F.endF [(0, .slice (some ⟨g, 0, none⟩) (n + 1) c), (1, .int .i64 ((i : Nat) : Int)), (2, .slice (some ⟨vb, 0, none⟩) 1 1), (6, .slice none 0 0), (7, .int .i64 1), (8, .int .i64 ((n : Nat) : Int)), (16, .bool false), (22, .bool false), (31, .bool false), (68, .bool true)] (fun U87 => ?_)
      have hv := Sk s81 hv hnb
      have c88 := (SG.fr (B := g) c77 s81 (fun kq e => .inl (Option.some.inj e).symm))
      apply h20
      refine wp_seq_k (fun K21 h21 => ?_)
      refine W.region_quiet [(0, false), (1, false)] (by kernel_rfl) ?_
      refine F.mv (v := .slice (some ⟨g, 0, none⟩) (n + 1) c) (h := ?_)
      refine F.as (v := .slice (some ⟨g, 0, none⟩) (n + 1) c) (h := ?_)
      refine F.endF [(0, .slice (some ⟨g, 0, none⟩) (n + 1) c), (1, .int .i64 ((i : Nat) : Int)), (2, .slice (some ⟨vb, 0, none⟩) 1 1), (6, .slice (some ⟨g, 0, none⟩) (n + 1) c), (7, .int .i64 1), (8, .int .i64 ((n : Nat) : Int)), (16, .bool false), (22, .bool false), (31, .bool false), (68, .bool true)] (fun U89 => ?_)
      apply h21
      refine wp_ret ?_
      try simp only [Exit.then]
      refine ret1 (v := .slice (some ⟨g, 0, none⟩) (n + 1) c) rfl (by kernel_rfl) ?_
      have hfin : cur82.toList.take ((n + 1) * 4) = pipesV (ps.take i ++ x :: ps.drop i) := by rw [hc83, hc72]; exact (ins_B (L := cur.toList) (X := x.vals) (by rw [Array.length_toList, hcs]; omega) (Nat.le_of_lt hin) htk rfl hrl).trans (ins_fin ps x i)
      exact ⟨_, _, rfl, own_shut hb hx84 (by omega) hcm hs85 hfin (by rw [ins_len, List.length_append, List.length_cons, List.length_take, List.length_drop, hl]; omega), c88, (.inl rfl)⟩
theorem InsertP_any (A : Option Addr) (n c i vb base : Nat) (ps : List Pp) (x : Pp) (w : World) (hbs : base ≤ w.heap.size) (how : w.ownsRow base 38 4 (.slice A n c) n (pipesV ps)) (hob : (Value.slice A n c).ownBlock ≠ none) (hv : w.heap[vb]? = some (.cells #[.int .i64 x.id, .int .i64 x.fr, .int .i64 x.to, .int .i64 x.sz] 38 (0, 0))) (hnb : Nb vb (.slice A n c)) (hi : i ≤ n) (hn : n ≤ 1000000) :
    Calls Tryd.prog 57 #[.slice A n c, .int .i64 ((i : Nat) : Int), .slice (some ⟨vb, 0, none⟩) 1 1] w fun e w' => ∃ A' c', e = .returned (.slice A' (n + 1) c') ∧ w'.ownsRow base 38 4 (.slice A' (n + 1) c') (n + 1) (pipesV (ps.take i ++ x :: ps.drop i)) ∧ w.grownBy w' (Value.slice A n c).ownBlock ∧ ((Value.slice A' (n + 1) c').ownBlock = (Value.slice A n c).ownBlock ∨ ∀ k, (Value.slice A' (n + 1) c').ownBlock = some k → w.heap.size ≤ k) := by
  have hl : ps.length = n := by have := how.1; rw [ins_len] at this; omega
  rcases how.2 with ⟨hv0, _⟩ | ⟨g, cap, cur, hv0, hb, hh, hnc, hm, hs, ht⟩
  · exact absurd (by rw [hv0]; rfl) hob
  · simp only [Value.slice.injEq] at hv0
    obtain ⟨rfl, _, rfl⟩ := hv0
    exact InsertP_some g n c i vb base cur ps x w hbs hb hh hnc hm hs ht hl hv (fun e => hnb (by rw [e]; rfl)) hi hn
end Go.Proofs.YtdlcldaogcbnlaaDoor
