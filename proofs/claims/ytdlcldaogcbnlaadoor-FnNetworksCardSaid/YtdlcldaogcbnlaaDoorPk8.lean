/- What the texts behind it build on; conditions: none. -/
import Derived.Test.YtdlcldaogcbnlaaDoorPk7
import Derived.ProofKit
import Derived.OpenShut
import Derived.Lib.SmallJoins
import Derived.Deep.Slices
import Derived.Deep.Fields
import Derived.Lib.LaidTab
import Derived.MakeChecks
import Derived.Deep.DeepHandedRow
import Derived.Deep.DeepWitnessRowRef
namespace Go.Proofs.YtdlcldaogcbnlaaDoor
open Go.RowKit
set_option linter.unusedVariables false
set_option linter.unusedSimpArgs false
set_option maxRecDepth 100000 in
set_option maxHeartbeats 8000000 in
theorem AddPipe_impl (m : Int) (A : Option Addr) (n c : Nat) (ps : List Pp) (x : Pp) (w : World) (ha : Rd w 4 A n (pipesV ps)) (hn : n ≤ 1048576) (hf : Fm A n c) :
    Calls Tryd.prog 19 #[.agg #[.int .i64 m, .slice A n c], .agg #[.int .i64 x.id, .int .i64 x.fr, .int .i64 x.to, .int .i64 x.sz]] w fun e w' => ∃ A' d, e = .returned (.tuple #[.agg #[.int .i64 (AddPipe_m0 m ps x), .slice A' (AddPipe_v0 m ps x).length d], .bool (AddPipe_v1 m ps x)]) ∧ w'.ownsRow w.heap.size 38 4 (.slice A' (AddPipe_v0 m ps x).length d) (AddPipe_v0 m ps x).length (pipesV (AddPipe_v0 m ps x)) ∧ Below w.heap.size w w' := by
 have hl := rd_pipes_len ha
 go_enter Tryd.func19, Tryd.ntmps19
 refine F.begin 46 [(0, .agg #[.int .i64 m, .slice A n c]), (1, .agg #[.int .i64 x.id, .int .i64 x.fr, .int .i64 x.to, .int .i64 x.sz])] (fun U0 => ?_)
 refine wk fun K1 h1 => ?_
 refine W.region_plain (row := none) [(0, true), (1, true), (2, true), (3, false)] kk ?_
 have s1 := SG.self w none
 refine W.sn (fun b => .pointer (some ⟨b, 0, none⟩)) #[.int .i64 m, .slice A n c] 24 s1 rfl kk rfl (fun _ => by kernel_rfl) (fun b2 w3 hb4 k5 x6 s7 => ?_)
 apply F.nx
 have lo8 : w.heap.size ≤ b2 := Nl ((Sb (Below.refl _ _) s1 nkk)).size (Nat.le_of_eq hb4)
 refine W.sn (fun b => .pointer (some ⟨b, 0, none⟩)) #[.int .i64 x.id, .int .i64 x.fr, .int .i64 x.to, .int .i64 x.sz] 38 s7 rfl kk rfl (fun _ => by kernel_rfl) (fun b9 w10 hb11 k12 x13 s14 => ?_)
 apply F.nx
 have lo15 : w.heap.size ≤ b9 := Nl ((Sb (Below.refl _ _) s7 nkk)).size (Nat.le_of_eq hb11)
 have x6 := (k12.block _ (blk_lt x6)).trans x6
 refine W.sn (fun b => .pointer (some ⟨b, 0, none⟩)) #[.int .i64 0, .slice none 0 0] 24 s14 rfl kk rfl (fun _ => by kernel_rfl) (fun b17 w18 hb19 k20 x21 s22 => ?_)
 apply F.nx
 have lo23 : w.heap.size ≤ b17 := Nl ((Sb (Below.refl _ _) s14 nkk)).size (Nat.le_of_eq hb19)
 have ne24 : b2 ≠ b17 := Nat.ne_of_lt (Nat.lt_of_lt_of_eq (blk_lt x6) hb19)
 have ne25 : b9 ≠ b17 := Nat.ne_of_lt (Nat.lt_of_lt_of_eq (blk_lt x13) hb19)
 have x6 := (k20.block _ (blk_lt x6)).trans x6
 have x13 := (k20.block _ (blk_lt x13)).trans x13
 refine Fa (.bool false) ?_
 apply F.es
 have c26 := (Sb (Below.refl _ _) s22 nkk)
 apply h1
 refine wk fun K2 h2 => ?_
 refine wk fun K3 h3 => ?_
 refine W.region_plain (row := none) [(0, false), (1, true), (2, false)] kk ?_
 have s27 := SG.self w18 none
 refine Fq (.agg #[.int .i64 m, .slice A n c]) (r_load2 rfl ek kk kk (sgS (blk_cell (j := 0) x6 kk) onn) (sgS (blk_cell (j := 1) x6 kk) onn)) ?_
 refine Fc [.agg #[.int .i64 m, .slice A n c]] (IsValid_any m A n c ps _ (Rk ha (Sb c26 s27 nkk)) (by omega)) ?_
 rintro e w29 ⟨rfl, b28⟩
 have s30 := SG.of_below s27 b28
 refine ⟨_, rfl, s30, ?_⟩
 apply F.nx
 rcases Bool.eq_false_or_eq_true (goodN m ps) with q31 | q31
 ·rw [q31]
  have hgl32 := (good_of q31).len
  refine Fq (.bool false) (r_not (b := true) rfl ek rfl) ?_
  apply F.es
  have x6 := Sk s30 x6 onn
  have x13 := Sk s30 x13 onn
  have x21 := Sk s30 x21 onn
  have c33 := (Sb c26 s30 nkk)
  apply h3
  refine wp_cond_false ek ?_
  apply wp_skip
  apply h2
  refine wk fun K4 h4 => ?_
  refine Rq 1 ?_
  refine Fa (.int .i64 0) ?_
  apply F.es
  apply h4
  refine joinK (fun amj1 aaj1 wlj1 => ∃ (k2 : Nat) , Kn aaj1 [(2, .pointer (some ⟨b2, 0, none⟩)), (3, .pointer (some ⟨b9, 0, none⟩)), (4, .pointer (some ⟨b17, 0, none⟩)), (5, .bool false), (6, .int .i64 (k2 : Int))] 46 ∧ (amj1 = 0) ∧ (k2 ≤ n) ∧ (insAtP ps x.id = k2) ∧ (wlj1.heap[b2]? = some (.cells #[.int .i64 m, .slice A n c] 24 (0, 0))) ∧ (wlj1.heap[b9]? = some (.cells #[.int .i64 x.id, .int .i64 x.fr, .int .i64 x.to, .int .i64 x.sz] 38 (0, 0))) ∧ (wlj1.heap[b17]? = some (.cells #[.int .i64 0, .slice none 0 0] 24 (0, 0))) ∧ (Below w.heap.size w wlj1)) ?_ ?_
  ·rintro amj1 aaj1 wlj1 ⟨k2, ⟨Uj1, rfl⟩, rfl, hk2, hkk, x6, x13, x21, c34⟩
   refine joinK (fun _ aa7 wl7 => ∃ (A7 : Option Addr) (n7 c7 g7 : Nat) (U7 : Nat → Value), aa7 = ⟨(fr U7 [(2, .pointer (some ⟨b2, 0, none⟩)), (3, .pointer (some ⟨b9, 0, none⟩)), (4, .pointer (some ⟨b17, 0, none⟩)), (5, .bool false), (6, .int .i64 (k2 : Int)), (7, .pointer (some ⟨g7, 0, none⟩))] 46 0).toArray, []⟩ ∧ (wl7.heap[b2]? = some (.cells #[.int .i64 m, .slice A n c] 24 (0, 0))) ∧ (wl7.heap[b9]? = some (.cells #[.int .i64 x.id, .int .i64 x.fr, .int .i64 x.to, .int .i64 x.sz] 38 (0, 0))) ∧ (wl7.heap[b17]? = some (.cells #[.int .i64 0, .slice none 0 0] 24 (0, 0))) ∧ (wl7.heap[g7]? = some (.cells #[.int .i64 m, .slice A7 n7 c7] 24 (0, 0))) ∧ (w.heap.size ≤ g7) ∧ (wl7.ownsRow w.heap.size 38 4 (.slice A7 n7 c7) n7 (pipesV (ps.take k2 ++ x :: ps.drop k2))) ∧ (n7 ≤ n + 1) ∧ (Nb b2 (.slice A7 n7 c7)) ∧ (Nb b9 (.slice A7 n7 c7)) ∧ (Nb b17 (.slice A7 n7 c7)) ∧ (Nb g7 (.slice A7 n7 c7)) ∧ (b2 ≠ g7) ∧ (b9 ≠ g7) ∧ (b17 ≠ g7) ∧ (Below w.heap.size w wl7)) ?_ ?_
   ·rintro am7 aa7 wl7 ⟨A7, n7, c7, g7, U7, rfl, x6, x13, x21, hx7, hlo7, ho7, hn7, nb7_0, nb7_1, nb7_2, nb7_g, ne7_0, ne7_1, ne7_2, c7b⟩
    refine wk fun K5 h5 => ?_
    refine wk fun K6 h6 => ?_
    refine W.region_plain (row := none) [(0, false), (1, true), (2, false)] kk ?_
    have s35 := SG.self wl7 none
    refine Fq (.agg #[.int .i64 m, .slice A7 n7 c7]) (r_load2 rfl ek kk kk (sgS (blk_cell (j := 0) hx7 kk) onn) (sgS (blk_cell (j := 1) hx7 kk) onn)) ?_
    refine Fc [.agg #[.int .i64 m, .slice A7 n7 c7]] (IsValid_any m A7 n7 c7 (ps.take k2 ++ x :: ps.drop k2) _ (own_rd ho7) (by omega)) ?_
    rintro e w37 ⟨rfl, b36⟩
    have s38 := SG.of_below s35 b36
    refine ⟨_, rfl, s38, ?_⟩
    apply F.nx
    have ho39 := own_kept ho7 b36
    rcases Bool.eq_false_or_eq_true (goodN m (ps.take k2 ++ x :: ps.drop k2)) with q40 | q40
    ·rw [q40]
     have hgl41 := (good_of q40).len
     refine Fq (.bool false) (r_not (b := true) rfl ek rfl) ?_
     apply F.es
     have x6 := Sk s38 x6 onn
     have x13 := Sk s38 x13 onn
     have x21 := Sk s38 x21 onn
     have hx7 := Sk s38 hx7 onn
     have c42 := (Sb c7b s38 nkk)
     apply h6
     as_aux_lemma =>
      refine wp_cond_false ek ?_
      apply wp_skip
      apply h5
      refine wk fun K7 h7 => ?_
      refine W.region_plain (row := (some b17)) [(0, false), (1, true), (2, false)] kk ?_
      have s43 := SG.self w37 (some b17)
      refine Fq (.agg #[.int .i64 m, .slice A7 n7 c7]) (r_load2 rfl ek kk kk (sgS (blk_cell (j := 0) hx7 kk) (fun e9 => ne7_2 (Option.some.inj e9).symm)) (sgS (blk_cell (j := 1) hx7 kk) (fun e9 => ne7_2 (Option.some.inj e9).symm))) ?_
      refine W.ss (v := .agg #[.int .i64 m, .slice A7 n7 c7]) (j := 0) (news := [.int .i64 m, .slice A7 n7 c7]) (cs' := #[.int .i64 m, .slice A7 n7 c7]) s43 rfl kk rfl rfl kk kk x21 kk kk (by simp) kk kk (.inl rfl) (fun w44 g45 x46 s47 => ?_)
      have ho48 := own_grown ho39 g45 (fun j e1 e2 => by cases e2; exact nb7_2 e1.symm)
      refine Fa (.bool true) ?_
      apply F.es
      have x6 := Sk s47 x6 (fun e9 => ne24 (Option.some.inj e9))
      have x13 := Sk s47 x13 (fun e9 => ne25 (Option.some.inj e9))
      have hx7 := Sk s47 hx7 (fun e9 => ne7_2 (Option.some.inj e9).symm)
      have c49 := (Sb c42 s47 (fun kq e => by cases e; exact lo23))
      apply h7
      refine wp_ret ?_
      try simp only [Exit.then]
      refine retCT (x := .bool true) rfl kk kk kk kk x46 ?_
      have hm9 : moreP ps x = (ps.take k2 ++ x :: ps.drop k2) := moreP_is hkk
      exact fin_net ho48 (add_of q31 hm9 q40).2.2.symm (add_of q31 hm9 q40).2.1.symm (add_of q31 hm9 q40).1.symm c49
    rw [q40]
    refine Fq (.bool true) (r_not (b := false) rfl ek rfl) ?_
    apply F.es
    have x6 := Sk s38 x6 onn
    have x13 := Sk s38 x13 onn
    have x21 := Sk s38 x21 onn
    have hx7 := Sk s38 hx7 onn
    have c50 := (Sb c7b s38 nkk)
    apply h6
    refine wp_cond_true ek ?_
    refine wk fun K8 h8 => ?_
    refine W.region_plain (row := (some b17)) [(0, false), (1, true), (2, false)] kk ?_
    have s51 := SG.self w37 (some b17)
    refine Fq (.agg #[.int .i64 0, .slice none 0 0]) (r_build rfl (vs := []) kk kk) ?_
    refine W.ss (v := .agg #[.int .i64 0, .slice none 0 0]) (j := 0) (news := [.int .i64 0, .slice none 0 0]) (cs' := #[.int .i64 0, .slice none 0 0]) s51 rfl kk rfl rfl kk kk x21 kk kk (by simp) kk kk (.inl rfl) (fun w52 g53 x54 s55 => ?_)
    refine Fa (.bool false) ?_
    apply F.es
    have x6 := Sk s55 x6 (fun e9 => ne24 (Option.some.inj e9))
    have x13 := Sk s55 x13 (fun e9 => ne25 (Option.some.inj e9))
    have hx7 := Sk s55 hx7 (fun e9 => ne7_2 (Option.some.inj e9).symm)
    have c57 := (Sb c50 s55 (fun kq e => by cases e; exact lo23))
    apply h8
    refine wp_ret ?_
    try simp only [Exit.then]
    refine retCT (x := .bool false) rfl kk kk kk kk x54 ?_
    have hm9 : moreP ps x = (ps.take k2 ++ x :: ps.drop k2) := moreP_is hkk
    exact fin_net (zs := []) (World.ownsRow_nil _ _ _ _) (add_bad hm9 q40).2.2.symm (add_bad hm9 q40).2.1.symm (add_bad hm9 q40).1.symm c57
   intro K9 h9
   refine W.region_sch (row := none) (Sch.app [(0, false), (1, false), (3, false), (4, false), (6, false), (7, false)] (.br3 2 8 11 (Sch.app [] (.br3 5 8 11 (Sch.app [] (.br 8 11 (Sch.app [] (.br 9 11 (Sch.of [(10, false), (11, true), (12, true)]) (Sch.of [(9, true), (10, false), (12, true)]))) (Sch.of [(8, true), (9, true), (10, false), (12, true)]))) (Sch.app [] (.br 5 11 (Sch.app [] (.br 9 11 (Sch.of [(10, false), (11, true), (12, true)]) (Sch.of [(9, true), (10, false), (12, true)]))) (Sch.of [(5, true), (9, true), (10, false), (12, true)]))) (Sch.app [] (.br 5 8 (Sch.of [(8, true), (9, true), (10, false), (12, true)]) (Sch.of [(5, true), (9, true), (10, false), (12, true)]))))) (Sch.app [] (.br 2 11 (Sch.app [] (.br 5 11 (Sch.app [] (.br 9 11 (Sch.of [(10, false), (11, true), (12, true)]) (Sch.of [(9, true), (10, false), (12, true)]))) (Sch.of [(5, true), (9, true), (10, false), (12, true)]))) (Sch.of [(2, true), (5, true), (9, true), (10, false), (12, true)]))) (Sch.app [] (.br 2 8 (Sch.app [] (.br 5 8 (Sch.of [(8, true), (9, true), (10, false), (12, true)]) (Sch.of [(5, true), (9, true), (10, false), (12, true)]))) (Sch.of [(2, true), (5, true), (9, true), (10, false), (12, true)]))))) kk kk (fun _ d _ _ _ h => by cases d <;> exact h) kk (fun w58 e59 s60 => ?_)
   refine Fq (.pointer (some ⟨b2, 0, none⟩)) (r_field0 rfl ek kk) ?_
   refine Fl (.int .i64 m) (sgS (blk_cell (j := 0) x6 kk) onn) ?_
   refine Fq (.pointer (some ⟨b2, 1, none⟩)) (r_field (k := 1) rfl ek kk) ?_
   refine Fl (.slice A n c) (sgS (blk_cell (j := 1) x6 kk) onn) ?_
   refine Fv (.int .i64 (k2 : Int)) ?_
   refine Fq (.agg #[.int .i64 x.id, .int .i64 x.fr, .int .i64 x.to, .int .i64 x.sz]) (r_load4 rfl ek kk kk (sgS (blk_cell (j := 0) x13 kk) onn) (sgS (blk_cell (j := 1) x13 kk) onn) (sgS (blk_cell (j := 2) x13 kk) onn) (sgS (blk_cell (j := 3) x13 kk) onn)) ?_
   refine W.sbr3 ?_ ?_ ?_
   ·refine W.sn (fun b => .slice (some ⟨b, 0, none⟩) 0 0) #[] 38 s60 rfl kk rfl (fun _ => by kernel_rfl) (fun b61 w62 hb63 k64 x65 s66 => ?_)
    apply F.nx
    have lo67 : w.heap.size ≤ b61 := Nl ((Sb c34 s60 nkk)).size (Nat.le_of_eq hb63)
    have ne68 : b2 ≠ b61 := Nat.ne_of_lt (Nat.lt_of_lt_of_eq (Nat.lt_of_lt_of_le (blk_lt x6) (s60).size) hb63)
    have ne69 : b9 ≠ b61 := Nat.ne_of_lt (Nat.lt_of_lt_of_eq (Nat.lt_of_lt_of_le (blk_lt x13) (s60).size) hb63)
    have ne70 : b17 ≠ b61 := Nat.ne_of_lt (Nat.lt_of_lt_of_eq (Nat.lt_of_lt_of_le (blk_lt x21) (s60).size) hb63)
    refine W.sbr3 ?_ ?_ ?_
    ·have ho71 := own_empty (base := w.heap.size) (size := 4) x65 lo67
     replace ho71 : World.ownsRow _ _ _ _ _ _ (pipesV []) := ho71
     have nb72 : Nb b2 (.slice (some ⟨b61, 0, none⟩) 0 0) := nb_new ne68
     have nb73 : Nb b9 (.slice (some ⟨b61, 0, none⟩) 0 0) := nb_new ne69
     have nb74 : Nb b17 (.slice (some ⟨b61, 0, none⟩) 0 0) := nb_new ne70
     replace ho71 : World.ownsRow _ _ _ _ _ _ (pipesV []) := ho71
     refine W.sapR (e := 38) (size := 4) (base := w.heap.size) (v := .slice (some ⟨b61, 0, none⟩) 0 0) (A := A) (m := n) (c := c) s66 rfl rfl rfl rfl kk kk kk ho71 (Rk ha (Sb c34 s66 nkk)) hf (pipes_one _) (by omega) (by have := ((Sb c34 s66 nkk)).size; omega) (.inr (fun kq e => by have := (s60).size; have := hb63; have e' := Option.some.inj e; simp at e'; omega)) (fun A75 cap76 w77 ho78 hg79 hat80 s81 => ?_)
     apply F.nx
     have nb82 : Nb b2 (.slice A75 (0 + n) cap76) := nb_app2 nb72 (Nat.lt_of_lt_of_le (blk_lt x6) (s66).size) hat80
     have nb83 : Nb b9 (.slice A75 (0 + n) cap76) := nb_app2 nb73 (Nat.lt_of_lt_of_le (blk_lt x13) (s66).size) hat80
     have nb84 : Nb b17 (.slice A75 (0 + n) cap76) := nb_app2 nb74 (Nat.lt_of_lt_of_le (blk_lt x21) (s66).size) hat80
     have ho78 := own_joinP ho78
     have fr85 : ∀ kq, (.slice A75 (0 + n) cap76 : Value).ownBlock = some kq → wlj1.heap.size ≤ kq := fun kq e => by
       have hs := (s66).size
       rcases hat80 with h | h
       · exact (show ∀ kq, Value.ownBlock _ = some kq → wlj1.heap.size ≤ kq from (fun kq e => by have := (s60).size; have := hb63; have e' := Option.some.inj e; simp at e'; omega)) kq (h.symm.trans e)
       · have := Option.some.inj (h.symm.trans e); omega
     refine W.sbr ?_ ?_
     ·refine W.sn (fun b => .slice (some ⟨b, 0, none⟩) 1 1) #[.int .i64 x.id, .int .i64 x.fr, .int .i64 x.to, .int .i64 x.sz] 38 s81 rfl kk rfl (fun _ => by kernel_rfl) (fun b86 w87 hb88 k89 x90 s91 => ?_)
      apply F.nx
      have lo92 : w.heap.size ≤ b86 := Nl ((Sb c34 s81 nkk)).size (Nat.le_of_eq hb88)
      have nb96 : Nb b86 (.slice A75 (0 + n) cap76) := nb_hi ho78 (Nat.le_of_eq hb88)
      have ho97 := own_kept ho78 k89
      refine W.sbr ?_ ?_
      ·refine Fc [.slice A75 (0 + n) cap76, .int .i64 (k2 : Int), .slice (some ⟨b86, 0, none⟩) 1 1] (InsertP_any A75 (0 + n) cap76 k2 b86 w.heap.size ([] ++ ps) x _ ((Sb c34 s91 nkk)).size ho97 (by rcases hat80 with h | h <;> rw [h] <;> simp [Value.ownBlock]) x90 nb96 (by omega) (by omega)) ?_
       rintro e w101 ⟨A98, c99, rfl, ho103, g102, hat105⟩
       have s104 := SG.of_grown s91 g102 (.inr fr85)
       refine ⟨_, rfl, s104, ?_⟩
       apply F.nx
       have nb106 : Nb b2 (.slice A98 ((0 + n) + 1) c99) := nb_app3 (v := .slice A75 (0 + n) cap76) nb82 (Nat.lt_of_lt_of_le (blk_lt x6) (s91).size) hat105
       have nb107 : Nb b9 (.slice A98 ((0 + n) + 1) c99) := nb_app3 (v := .slice A75 (0 + n) cap76) nb83 (Nat.lt_of_lt_of_le (blk_lt x13) (s91).size) hat105
       have nb108 : Nb b17 (.slice A98 ((0 + n) + 1) c99) := nb_app3 (v := .slice A75 (0 + n) cap76) nb84 (Nat.lt_of_lt_of_le (blk_lt x21) (s91).size) hat105
       have x90 := (g102.block _ (blk_lt x90) nb96).trans x90
       have fr110 : ∀ kq, (.slice A98 ((0 + n) + 1) c99 : Value).ownBlock = some kq → wlj1.heap.size ≤ kq := fun kq e => by
         have hs := (s91).size
         rcases (show (.slice A98 ((0 + n) + 1) c99 : Value).ownBlock = (.slice A75 (0 + n) cap76 : Value).ownBlock ∨ ∀ k9, (.slice A98 ((0 + n) + 1) c99 : Value).ownBlock = some k9 → w87.heap.size ≤ k9 from hat105) with h | h
         · exact (show ∀ kq, (.slice A75 (0 + n) cap76 : Value).ownBlock = some kq → wlj1.heap.size ≤ kq from fr85) kq (by rw [← h]; exact e)
         · have := h kq e; omega
       refine Fq (.agg #[.int .i64 m, .slice A98 ((0 + n) + 1) c99]) (r_build rfl (vs := [(0, .int .i64 m), (1, .slice A98 ((0 + n) + 1) c99)]) kk kk) ?_
       refine W.sn (fun b => .pointer (some ⟨b, 0, none⟩)) #[.int .i64 0, .slice none 0 0] 24 s104 rfl kk rfl (fun _ => by kernel_rfl) (fun b111 w112 hb113 k114 x115 s116 => ?_)
       apply F.nx
       have lo117 : w.heap.size ≤ b111 := Nl ((Sb c34 s104 nkk)).size (Nat.le_of_eq hb113)
       have ne118 : b2 ≠ b111 := Nat.ne_of_lt (Nat.lt_of_lt_of_eq (Nat.lt_of_lt_of_le (blk_lt x6) (s104).size) hb113)
       have ne119 : b9 ≠ b111 := Nat.ne_of_lt (Nat.lt_of_lt_of_eq (Nat.lt_of_lt_of_le (blk_lt x13) (s104).size) hb113)
       have ne120 : b17 ≠ b111 := Nat.ne_of_lt (Nat.lt_of_lt_of_eq (Nat.lt_of_lt_of_le (blk_lt x21) (s104).size) hb113)
       have ne121 : b86 ≠ b111 := Nat.ne_of_lt (Nat.lt_of_lt_of_eq (blk_lt x90) hb113)
       have nb122 : Nb b111 (.slice A98 ((0 + n) + 1) c99) := nb_hi ho103 (Nat.le_of_eq hb113)
       have x90 := (k114.block _ (blk_lt x90)).trans x90
       have ho123 := own_kept ho103 k114
       refine W.ss (v := .agg #[.int .i64 m, .slice A98 ((0 + n) + 1) c99]) (j := 0) (news := [.int .i64 m, .slice A98 ((0 + n) + 1) c99]) (cs' := #[.int .i64 m, .slice A98 ((0 + n) + 1) c99]) s116 rfl kk rfl rfl kk kk x115 kk kk (by simp) kk kk (.inr (Nl (s104).size (Nat.le_of_eq hb113))) (fun w124 g125 x126 s127 => ?_)
       have x90 := (g125.block _ (blk_lt x90) (fun e9 => ne121 (Option.some.inj e9))).trans x90
       have ho128 := own_grown ho123 g125 (fun j e1 e2 => by cases e2; exact nb122 e1.symm)
       apply F.es
       have x6 := Sk s127 x6 onn
       have x13 := Sk s127 x13 onn
       have x21 := Sk s127 x21 onn
       have c129 := (Sb c34 s127 nkk)
       exact h9 0 _ _ ⟨A98, ((0 + n) + 1), c99, b111, (fun iU9 => lk [(2, .pointer (some ⟨b2, 0, none⟩)), (3, .pointer (some ⟨b9, 0, none⟩)), (4, .pointer (some ⟨b17, 0, none⟩)), (5, .bool false), (6, .int .i64 (k2 : Int)), (7, .pointer (some ⟨b111, 0, none⟩)), (30, .pointer (some ⟨b2, 0, none⟩)), (31, .int .i64 m), (32, .slice (some ⟨b61, 0, none⟩) 0 0), (33, .pointer (some ⟨b2, 1, none⟩)), (34, .slice A n c), (35, .slice A75 (0 + n) cap76), (36, .int .i64 (k2 : Int)), (37, .agg #[.int .i64 x.id, .int .i64 x.fr, .int .i64 x.to, .int .i64 x.sz]), (38, .slice (some ⟨b86, 0, none⟩) 1 1), (39, .slice A98 ((0 + n) + 1) c99), (40, .agg #[.int .i64 m, .slice A98 ((0 + n) + 1) c99])] iU9 (Uj1 iU9)), kk, x6, x13, x21, x126, lo117, ho128, by omega, nb106, nb107, nb108, nb122, ne118, ne119, ne120, c129⟩
      refine W.sn (fun b => .pointer (some ⟨b, 0, none⟩)) #[.int .i64 0, .slice none 0 0] 24 s91 rfl kk rfl (fun _ => by kernel_rfl) (fun b130 w131 hb132 k133 x134 s135 => ?_)
      apply F.nx
      have lo136 : w.heap.size ≤ b130 := Nl ((Sb c34 s91 nkk)).size (Nat.le_of_eq hb132)
      have ne137 : b2 ≠ b130 := Nat.ne_of_lt (Nat.lt_of_lt_of_eq (Nat.lt_of_lt_of_le (blk_lt x6) (s91).size) hb132)
      have ne138 : b9 ≠ b130 := Nat.ne_of_lt (Nat.lt_of_lt_of_eq (Nat.lt_of_lt_of_le (blk_lt x13) (s91).size) hb132)
      have ne139 : b17 ≠ b130 := Nat.ne_of_lt (Nat.lt_of_lt_of_eq (Nat.lt_of_lt_of_le (blk_lt x21) (s91).size) hb132)
      have nb141 : Nb b130 (.slice A75 (0 + n) cap76) := nb_hi ho97 (Nat.le_of_eq hb132)
      have x90 := (k133.block _ (blk_lt x90)).trans x90
      have ho142 := own_kept ho97 k133
      refine Fc [.slice A75 (0 + n) cap76, .int .i64 (k2 : Int), .slice (some ⟨b86, 0, none⟩) 1 1] (InsertP_any A75 (0 + n) cap76 k2 b86 w.heap.size ([] ++ ps) x _ ((Sb c34 s135 nkk)).size ho142 (by rcases hat80 with h | h <;> rw [h] <;> simp [Value.ownBlock]) x90 nb96 (by omega) (by omega)) ?_
      rintro e w146 ⟨A143, c144, rfl, ho148, g147, hat150⟩
      have s149 := SG.of_grown s135 g147 (.inr fr85)
      refine ⟨_, rfl, s149, ?_⟩
      apply F.nx
      have nb151 : Nb b2 (.slice A143 ((0 + n) + 1) c144) := nb_app3 (v := .slice A75 (0 + n) cap76) nb82 (Nat.lt_of_lt_of_le (blk_lt x6) (s135).size) hat150
      have nb152 : Nb b9 (.slice A143 ((0 + n) + 1) c144) := nb_app3 (v := .slice A75 (0 + n) cap76) nb83 (Nat.lt_of_lt_of_le (blk_lt x13) (s135).size) hat150
      have nb153 : Nb b17 (.slice A143 ((0 + n) + 1) c144) := nb_app3 (v := .slice A75 (0 + n) cap76) nb84 (Nat.lt_of_lt_of_le (blk_lt x21) (s135).size) hat150
      have nb155 : Nb b130 (.slice A143 ((0 + n) + 1) c144) := nb_app3 (v := .slice A75 (0 + n) cap76) nb141 (blk_lt x134) hat150
      have x134 := (g147.block _ (blk_lt x134) nb141).trans x134
      have fr156 : ∀ kq, (.slice A143 ((0 + n) + 1) c144 : Value).ownBlock = some kq → wlj1.heap.size ≤ kq := fun kq e => by
        have hs := (s135).size
        rcases (show (.slice A143 ((0 + n) + 1) c144 : Value).ownBlock = (.slice A75 (0 + n) cap76 : Value).ownBlock ∨ ∀ k9, (.slice A143 ((0 + n) + 1) c144 : Value).ownBlock = some k9 → w131.heap.size ≤ k9 from hat150) with h | h
        · exact (show ∀ kq, (.slice A75 (0 + n) cap76 : Value).ownBlock = some kq → wlj1.heap.size ≤ kq from fr85) kq (by rw [← h]; exact e)
        · have := h kq e; omega
      refine Fq (.agg #[.int .i64 m, .slice A143 ((0 + n) + 1) c144]) (r_build rfl (vs := [(0, .int .i64 m), (1, .slice A143 ((0 + n) + 1) c144)]) kk kk) ?_
      refine W.ss (v := .agg #[.int .i64 m, .slice A143 ((0 + n) + 1) c144]) (j := 0) (news := [.int .i64 m, .slice A143 ((0 + n) + 1) c144]) (cs' := #[.int .i64 m, .slice A143 ((0 + n) + 1) c144]) s149 rfl kk rfl rfl kk kk x134 kk kk (by simp) kk kk (.inr (Nl (s91).size (Nat.le_of_eq hb132))) (fun w157 g158 x159 s160 => ?_)
      have ho161 := own_grown ho148 g158 (fun j e1 e2 => by cases e2; exact nb155 e1.symm)
      apply F.es
      have x6 := Sk s160 x6 onn
      have x13 := Sk s160 x13 onn
      have x21 := Sk s160 x21 onn
      have c162 := (Sb c34 s160 nkk)
      exact h9 0 _ _ ⟨A143, ((0 + n) + 1), c144, b130, (fun iU9 => lk [(2, .pointer (some ⟨b2, 0, none⟩)), (3, .pointer (some ⟨b9, 0, none⟩)), (4, .pointer (some ⟨b17, 0, none⟩)), (5, .bool false), (6, .int .i64 (k2 : Int)), (7, .pointer (some ⟨b130, 0, none⟩)), (30, .pointer (some ⟨b2, 0, none⟩)), (31, .int .i64 m), (32, .slice (some ⟨b61, 0, none⟩) 0 0), (33, .pointer (some ⟨b2, 1, none⟩)), (34, .slice A n c), (35, .slice A75 (0 + n) cap76), (36, .int .i64 (k2 : Int)), (37, .agg #[.int .i64 x.id, .int .i64 x.fr, .int .i64 x.to, .int .i64 x.sz]), (38, .slice (some ⟨b86, 0, none⟩) 1 1), (39, .slice A143 ((0 + n) + 1) c144), (40, .agg #[.int .i64 m, .slice A143 ((0 + n) + 1) c144])] iU9 (Uj1 iU9)), kk, x6, x13, x21, x159, lo136, ho161, by omega, nb151, nb152, nb153, nb155, ne137, ne138, ne139, c162⟩
     refine W.sn (fun b => .pointer (some ⟨b, 0, none⟩)) #[.int .i64 0, .slice none 0 0] 24 s81 rfl kk rfl (fun _ => by kernel_rfl) (fun b163 w164 hb165 k166 x167 s168 => ?_)
     apply F.nx
     have lo169 : w.heap.size ≤ b163 := Nl ((Sb c34 s81 nkk)).size (Nat.le_of_eq hb165)
     have ne170 : b2 ≠ b163 := Nat.ne_of_lt (Nat.lt_of_lt_of_eq (Nat.lt_of_lt_of_le (blk_lt x6) (s81).size) hb165)
     have ne171 : b9 ≠ b163 := Nat.ne_of_lt (Nat.lt_of_lt_of_eq (Nat.lt_of_lt_of_le (blk_lt x13) (s81).size) hb165)
     have ne172 : b17 ≠ b163 := Nat.ne_of_lt (Nat.lt_of_lt_of_eq (Nat.lt_of_lt_of_le (blk_lt x21) (s81).size) hb165)
     have nb173 : Nb b163 (.slice A75 (0 + n) cap76) := nb_hi ho78 (Nat.le_of_eq hb165)
     have ho174 := own_kept ho78 k166
     refine W.sn (fun b => .slice (some ⟨b, 0, none⟩) 1 1) #[.int .i64 x.id, .int .i64 x.fr, .int .i64 x.to, .int .i64 x.sz] 38 s168 rfl kk rfl (fun _ => by kernel_rfl) (fun b175 w176 hb177 k178 x179 s180 => ?_)
     apply F.nx
     have lo181 : w.heap.size ≤ b175 := Nl ((Sb c34 s168 nkk)).size (Nat.le_of_eq hb177)
     have nb186 : Nb b175 (.slice A75 (0 + n) cap76) := nb_hi ho174 (Nat.le_of_eq hb177)
     have x167 := (k178.block _ (blk_lt x167)).trans x167
     have ho187 := own_kept ho174 k178
     refine Fc [.slice A75 (0 + n) cap76, .int .i64 (k2 : Int), .slice (some ⟨b175, 0, none⟩) 1 1] (InsertP_any A75 (0 + n) cap76 k2 b175 w.heap.size ([] ++ ps) x _ ((Sb c34 s180 nkk)).size ho187 (by rcases hat80 with h | h <;> rw [h] <;> simp [Value.ownBlock]) x179 nb186 (by omega) (by omega)) ?_
     rintro e w191 ⟨A188, c189, rfl, ho193, g192, hat195⟩
     have s194 := SG.of_grown s180 g192 (.inr fr85)
     refine ⟨_, rfl, s194, ?_⟩
     apply F.nx
     have nb196 : Nb b2 (.slice A188 ((0 + n) + 1) c189) := nb_app3 (v := .slice A75 (0 + n) cap76) nb82 (Nat.lt_of_lt_of_le (blk_lt x6) (s180).size) hat195
     have nb197 : Nb b9 (.slice A188 ((0 + n) + 1) c189) := nb_app3 (v := .slice A75 (0 + n) cap76) nb83 (Nat.lt_of_lt_of_le (blk_lt x13) (s180).size) hat195
     have nb198 : Nb b17 (.slice A188 ((0 + n) + 1) c189) := nb_app3 (v := .slice A75 (0 + n) cap76) nb84 (Nat.lt_of_lt_of_le (blk_lt x21) (s180).size) hat195
     have nb199 : Nb b163 (.slice A188 ((0 + n) + 1) c189) := nb_app3 (v := .slice A75 (0 + n) cap76) nb173 (blk_lt x167) hat195
     have x167 := (g192.block _ (blk_lt x167) nb173).trans x167
     have fr201 : ∀ kq, (.slice A188 ((0 + n) + 1) c189 : Value).ownBlock = some kq → wlj1.heap.size ≤ kq := fun kq e => by
       have hs := (s180).size
       rcases (show (.slice A188 ((0 + n) + 1) c189 : Value).ownBlock = (.slice A75 (0 + n) cap76 : Value).ownBlock ∨ ∀ k9, (.slice A188 ((0 + n) + 1) c189 : Value).ownBlock = some k9 → w176.heap.size ≤ k9 from hat195) with h | h
       · exact (show ∀ kq, (.slice A75 (0 + n) cap76 : Value).ownBlock = some kq → wlj1.heap.size ≤ kq from fr85) kq (by rw [← h]; exact e)
       · have := h kq e; omega
     refine Fq (.agg #[.int .i64 m, .slice A188 ((0 + n) + 1) c189]) (r_build rfl (vs := [(0, .int .i64 m), (1, .slice A188 ((0 + n) + 1) c189)]) kk kk) ?_
     refine W.ss (v := .agg #[.int .i64 m, .slice A188 ((0 + n) + 1) c189]) (j := 0) (news := [.int .i64 m, .slice A188 ((0 + n) + 1) c189]) (cs' := #[.int .i64 m, .slice A188 ((0 + n) + 1) c189]) s194 rfl kk rfl rfl kk kk x167 kk kk (by simp) kk kk (.inr (Nl (s81).size (Nat.le_of_eq hb165))) (fun w202 g203 x204 s205 => ?_)
     have ho206 := own_grown ho193 g203 (fun j e1 e2 => by cases e2; exact nb199 e1.symm)
     apply F.es
     have x6 := Sk s205 x6 onn
     have x13 := Sk s205 x13 onn
     have x21 := Sk s205 x21 onn
     have c207 := (Sb c34 s205 nkk)
     exact h9 0 _ _ ⟨A188, ((0 + n) + 1), c189, b163, (fun iU9 => lk [(2, .pointer (some ⟨b2, 0, none⟩)), (3, .pointer (some ⟨b9, 0, none⟩)), (4, .pointer (some ⟨b17, 0, none⟩)), (5, .bool false), (6, .int .i64 (k2 : Int)), (7, .pointer (some ⟨b163, 0, none⟩)), (30, .pointer (some ⟨b2, 0, none⟩)), (31, .int .i64 m), (32, .slice (some ⟨b61, 0, none⟩) 0 0), (33, .pointer (some ⟨b2, 1, none⟩)), (34, .slice A n c), (35, .slice A75 (0 + n) cap76), (36, .int .i64 (k2 : Int)), (37, .agg #[.int .i64 x.id, .int .i64 x.fr, .int .i64 x.to, .int .i64 x.sz]), (38, .slice (some ⟨b175, 0, none⟩) 1 1), (39, .slice A188 ((0 + n) + 1) c189), (40, .agg #[.int .i64 m, .slice A188 ((0 + n) + 1) c189])] iU9 (Uj1 iU9)), kk, x6, x13, x21, x204, lo169, ho206, by omega, nb196, nb197, nb198, nb199, ne170, ne171, ne172, c207⟩
    ·refine W.sn (fun b => .slice (some ⟨b, 0, none⟩) 1 1) #[.int .i64 x.id, .int .i64 x.fr, .int .i64 x.to, .int .i64 x.sz] 38 s66 rfl kk rfl (fun _ => by kernel_rfl) (fun b208 w209 hb210 k211 x212 s213 => ?_)
     apply F.nx
     have lo214 : w.heap.size ≤ b208 := Nl ((Sb c34 s66 nkk)).size (Nat.le_of_eq hb210)
     have ne218 : b61 ≠ b208 := Nat.ne_of_lt (Nat.lt_of_lt_of_eq (blk_lt x65) hb210)
     have x65 := (k211.block _ (blk_lt x65)).trans x65
     refine W.sbr ?_ ?_
     ·have ho219 := own_empty (base := w.heap.size) (size := 4) x65 lo67
      replace ho219 : World.ownsRow _ _ _ _ _ _ (pipesV []) := ho219
      have nb220 : Nb b2 (.slice (some ⟨b61, 0, none⟩) 0 0) := nb_new ne68
      have nb221 : Nb b9 (.slice (some ⟨b61, 0, none⟩) 0 0) := nb_new ne69
      have nb222 : Nb b17 (.slice (some ⟨b61, 0, none⟩) 0 0) := nb_new ne70
      have nb223 : Nb b208 (.slice (some ⟨b61, 0, none⟩) 0 0) := nb_new (Ne.symm ne218)
      replace ho219 : World.ownsRow _ _ _ _ _ _ (pipesV []) := ho219
      refine W.sapR (e := 38) (size := 4) (base := w.heap.size) (v := .slice (some ⟨b61, 0, none⟩) 0 0) (A := A) (m := n) (c := c) s213 rfl rfl rfl rfl kk kk kk ho219 (Rk ha (Sb c34 s213 nkk)) hf (pipes_one _) (by omega) (by have := ((Sb c34 s213 nkk)).size; omega) (.inr (fun kq e => by have := (s60).size; have := hb63; have e' := Option.some.inj e; simp at e'; omega)) (fun A224 cap225 w226 ho227 hg228 hat229 s230 => ?_)
      apply F.nx
      have nb231 : Nb b2 (.slice A224 (0 + n) cap225) := nb_app2 nb220 (Nat.lt_of_lt_of_le (blk_lt x6) (s213).size) hat229
      have nb232 : Nb b9 (.slice A224 (0 + n) cap225) := nb_app2 nb221 (Nat.lt_of_lt_of_le (blk_lt x13) (s213).size) hat229
      have nb233 : Nb b17 (.slice A224 (0 + n) cap225) := nb_app2 nb222 (Nat.lt_of_lt_of_le (blk_lt x21) (s213).size) hat229
      have nb234 : Nb b208 (.slice A224 (0 + n) cap225) := nb_app2 nb223 (blk_lt x212) hat229
      have x212 := (hg228.block _ (blk_lt x212) nb223).trans x212
      have ho227 := own_joinP ho227
      have fr235 : ∀ kq, (.slice A224 (0 + n) cap225 : Value).ownBlock = some kq → wlj1.heap.size ≤ kq := fun kq e => by
        have hs := (s213).size
        rcases hat229 with h | h
        · exact (show ∀ kq, Value.ownBlock _ = some kq → wlj1.heap.size ≤ kq from (fun kq e => by have := (s60).size; have := hb63; have e' := Option.some.inj e; simp at e'; omega)) kq (h.symm.trans e)
        · have := Option.some.inj (h.symm.trans e); omega
      refine W.sbr ?_ ?_
      ·refine Fc [.slice A224 (0 + n) cap225, .int .i64 (k2 : Int), .slice (some ⟨b208, 0, none⟩) 1 1] (InsertP_any A224 (0 + n) cap225 k2 b208 w.heap.size ([] ++ ps) x _ ((Sb c34 s230 nkk)).size ho227 (by rcases hat229 with h | h <;> rw [h] <;> simp [Value.ownBlock]) x212 nb234 (by omega) (by omega)) ?_
       rintro e w239 ⟨A236, c237, rfl, ho241, g240, hat243⟩
       have s242 := SG.of_grown s230 g240 (.inr fr235)
       refine ⟨_, rfl, s242, ?_⟩
       apply F.nx
       have nb244 : Nb b2 (.slice A236 ((0 + n) + 1) c237) := nb_app3 (v := .slice A224 (0 + n) cap225) nb231 (Nat.lt_of_lt_of_le (blk_lt x6) (s230).size) hat243
       have nb245 : Nb b9 (.slice A236 ((0 + n) + 1) c237) := nb_app3 (v := .slice A224 (0 + n) cap225) nb232 (Nat.lt_of_lt_of_le (blk_lt x13) (s230).size) hat243
       have nb246 : Nb b17 (.slice A236 ((0 + n) + 1) c237) := nb_app3 (v := .slice A224 (0 + n) cap225) nb233 (Nat.lt_of_lt_of_le (blk_lt x21) (s230).size) hat243
       have x212 := (g240.block _ (blk_lt x212) nb234).trans x212
       have fr248 : ∀ kq, (.slice A236 ((0 + n) + 1) c237 : Value).ownBlock = some kq → wlj1.heap.size ≤ kq := fun kq e => by
         have hs := (s230).size
         rcases (show (.slice A236 ((0 + n) + 1) c237 : Value).ownBlock = (.slice A224 (0 + n) cap225 : Value).ownBlock ∨ ∀ k9, (.slice A236 ((0 + n) + 1) c237 : Value).ownBlock = some k9 → w226.heap.size ≤ k9 from hat243) with h | h
         · exact (show ∀ kq, (.slice A224 (0 + n) cap225 : Value).ownBlock = some kq → wlj1.heap.size ≤ kq from fr235) kq (by rw [← h]; exact e)
         · have := h kq e; omega
       refine Fq (.agg #[.int .i64 m, .slice A236 ((0 + n) + 1) c237]) (r_build rfl (vs := [(0, .int .i64 m), (1, .slice A236 ((0 + n) + 1) c237)]) kk kk) ?_
       refine W.sn (fun b => .pointer (some ⟨b, 0, none⟩)) #[.int .i64 0, .slice none 0 0] 24 s242 rfl kk rfl (fun _ => by kernel_rfl) (fun b249 w250 hb251 k252 x253 s254 => ?_)
       apply F.nx
       have lo255 : w.heap.size ≤ b249 := Nl ((Sb c34 s242 nkk)).size (Nat.le_of_eq hb251)
       have ne256 : b2 ≠ b249 := Nat.ne_of_lt (Nat.lt_of_lt_of_eq (Nat.lt_of_lt_of_le (blk_lt x6) (s242).size) hb251)
       have ne257 : b9 ≠ b249 := Nat.ne_of_lt (Nat.lt_of_lt_of_eq (Nat.lt_of_lt_of_le (blk_lt x13) (s242).size) hb251)
       have ne258 : b17 ≠ b249 := Nat.ne_of_lt (Nat.lt_of_lt_of_eq (Nat.lt_of_lt_of_le (blk_lt x21) (s242).size) hb251)
       have ne259 : b208 ≠ b249 := Nat.ne_of_lt (Nat.lt_of_lt_of_eq (blk_lt x212) hb251)
       have nb260 : Nb b249 (.slice A236 ((0 + n) + 1) c237) := nb_hi ho241 (Nat.le_of_eq hb251)
       have x212 := (k252.block _ (blk_lt x212)).trans x212
       have ho261 := own_kept ho241 k252
       refine W.ss (v := .agg #[.int .i64 m, .slice A236 ((0 + n) + 1) c237]) (j := 0) (news := [.int .i64 m, .slice A236 ((0 + n) + 1) c237]) (cs' := #[.int .i64 m, .slice A236 ((0 + n) + 1) c237]) s254 rfl kk rfl rfl kk kk x253 kk kk (by simp) kk kk (.inr (Nl (s242).size (Nat.le_of_eq hb251))) (fun w262 g263 x264 s265 => ?_)
       have x212 := (g263.block _ (blk_lt x212) (fun e9 => ne259 (Option.some.inj e9))).trans x212
       have ho266 := own_grown ho261 g263 (fun j e1 e2 => by cases e2; exact nb260 e1.symm)
       apply F.es
       have x6 := Sk s265 x6 onn
       have x13 := Sk s265 x13 onn
       have x21 := Sk s265 x21 onn
       have c267 := (Sb c34 s265 nkk)
       exact h9 0 _ _ ⟨A236, ((0 + n) + 1), c237, b249, (fun iU9 => lk [(2, .pointer (some ⟨b2, 0, none⟩)), (3, .pointer (some ⟨b9, 0, none⟩)), (4, .pointer (some ⟨b17, 0, none⟩)), (5, .bool false), (6, .int .i64 (k2 : Int)), (7, .pointer (some ⟨b249, 0, none⟩)), (30, .pointer (some ⟨b2, 0, none⟩)), (31, .int .i64 m), (32, .slice (some ⟨b61, 0, none⟩) 0 0), (33, .pointer (some ⟨b2, 1, none⟩)), (34, .slice A n c), (35, .slice A224 (0 + n) cap225), (36, .int .i64 (k2 : Int)), (37, .agg #[.int .i64 x.id, .int .i64 x.fr, .int .i64 x.to, .int .i64 x.sz]), (38, .slice (some ⟨b208, 0, none⟩) 1 1), (39, .slice A236 ((0 + n) + 1) c237), (40, .agg #[.int .i64 m, .slice A236 ((0 + n) + 1) c237])] iU9 (Uj1 iU9)), kk, x6, x13, x21, x264, lo255, ho266, by omega, nb244, nb245, nb246, nb260, ne256, ne257, ne258, c267⟩
      refine W.sn (fun b => .pointer (some ⟨b, 0, none⟩)) #[.int .i64 0, .slice none 0 0] 24 s230 rfl kk rfl (fun _ => by kernel_rfl) (fun b268 w269 hb270 k271 x272 s273 => ?_)
      apply F.nx
      have lo274 : w.heap.size ≤ b268 := Nl ((Sb c34 s230 nkk)).size (Nat.le_of_eq hb270)
      have ne275 : b2 ≠ b268 := Nat.ne_of_lt (Nat.lt_of_lt_of_eq (Nat.lt_of_lt_of_le (blk_lt x6) (s230).size) hb270)
      have ne276 : b9 ≠ b268 := Nat.ne_of_lt (Nat.lt_of_lt_of_eq (Nat.lt_of_lt_of_le (blk_lt x13) (s230).size) hb270)
      have ne277 : b17 ≠ b268 := Nat.ne_of_lt (Nat.lt_of_lt_of_eq (Nat.lt_of_lt_of_le (blk_lt x21) (s230).size) hb270)
      have ne278 : b208 ≠ b268 := Nat.ne_of_lt (Nat.lt_of_lt_of_eq (blk_lt x212) hb270)
      have nb279 : Nb b268 (.slice A224 (0 + n) cap225) := nb_hi ho227 (Nat.le_of_eq hb270)
      have x212 := (k271.block _ (blk_lt x212)).trans x212
      have ho280 := own_kept ho227 k271
      refine Fc [.slice A224 (0 + n) cap225, .int .i64 (k2 : Int), .slice (some ⟨b208, 0, none⟩) 1 1] (InsertP_any A224 (0 + n) cap225 k2 b208 w.heap.size ([] ++ ps) x _ ((Sb c34 s273 nkk)).size ho280 (by rcases hat229 with h | h <;> rw [h] <;> simp [Value.ownBlock]) x212 nb234 (by omega) (by omega)) ?_
      rintro e w284 ⟨A281, c282, rfl, ho286, g285, hat288⟩
      have s287 := SG.of_grown s273 g285 (.inr fr235)
      refine ⟨_, rfl, s287, ?_⟩
      apply F.nx
      have nb289 : Nb b2 (.slice A281 ((0 + n) + 1) c282) := nb_app3 (v := .slice A224 (0 + n) cap225) nb231 (Nat.lt_of_lt_of_le (blk_lt x6) (s273).size) hat288
      have nb290 : Nb b9 (.slice A281 ((0 + n) + 1) c282) := nb_app3 (v := .slice A224 (0 + n) cap225) nb232 (Nat.lt_of_lt_of_le (blk_lt x13) (s273).size) hat288
      have nb291 : Nb b17 (.slice A281 ((0 + n) + 1) c282) := nb_app3 (v := .slice A224 (0 + n) cap225) nb233 (Nat.lt_of_lt_of_le (blk_lt x21) (s273).size) hat288
      have x212 := (g285.block _ (blk_lt x212) nb234).trans x212
      have nb293 : Nb b268 (.slice A281 ((0 + n) + 1) c282) := nb_app3 (v := .slice A224 (0 + n) cap225) nb279 (blk_lt x272) hat288
      have x272 := (g285.block _ (blk_lt x272) nb279).trans x272
      have fr294 : ∀ kq, (.slice A281 ((0 + n) + 1) c282 : Value).ownBlock = some kq → wlj1.heap.size ≤ kq := fun kq e => by
        have hs := (s273).size
        rcases (show (.slice A281 ((0 + n) + 1) c282 : Value).ownBlock = (.slice A224 (0 + n) cap225 : Value).ownBlock ∨ ∀ k9, (.slice A281 ((0 + n) + 1) c282 : Value).ownBlock = some k9 → w269.heap.size ≤ k9 from hat288) with h | h
        · exact (show ∀ kq, (.slice A224 (0 + n) cap225 : Value).ownBlock = some kq → wlj1.heap.size ≤ kq from fr235) kq (by rw [← h]; exact e)
        · have := h kq e; omega
      refine Fq (.agg #[.int .i64 m, .slice A281 ((0 + n) + 1) c282]) (r_build rfl (vs := [(0, .int .i64 m), (1, .slice A281 ((0 + n) + 1) c282)]) kk kk) ?_
      refine W.ss (v := .agg #[.int .i64 m, .slice A281 ((0 + n) + 1) c282]) (j := 0) (news := [.int .i64 m, .slice A281 ((0 + n) + 1) c282]) (cs' := #[.int .i64 m, .slice A281 ((0 + n) + 1) c282]) s287 rfl kk rfl rfl kk kk x272 kk kk (by simp) kk kk (.inr (Nl (s230).size (Nat.le_of_eq hb270))) (fun w295 g296 x297 s298 => ?_)
      have x212 := (g296.block _ (blk_lt x212) (fun e9 => ne278 (Option.some.inj e9))).trans x212
      have ho299 := own_grown ho286 g296 (fun j e1 e2 => by cases e2; exact nb293 e1.symm)
      apply F.es
      have x6 := Sk s298 x6 onn
      have x13 := Sk s298 x13 onn
      have x21 := Sk s298 x21 onn
      have c300 := (Sb c34 s298 nkk)
      exact h9 0 _ _ ⟨A281, ((0 + n) + 1), c282, b268, (fun iU9 => lk [(2, .pointer (some ⟨b2, 0, none⟩)), (3, .pointer (some ⟨b9, 0, none⟩)), (4, .pointer (some ⟨b17, 0, none⟩)), (5, .bool false), (6, .int .i64 (k2 : Int)), (7, .pointer (some ⟨b268, 0, none⟩)), (30, .pointer (some ⟨b2, 0, none⟩)), (31, .int .i64 m), (32, .slice (some ⟨b61, 0, none⟩) 0 0), (33, .pointer (some ⟨b2, 1, none⟩)), (34, .slice A n c), (35, .slice A224 (0 + n) cap225), (36, .int .i64 (k2 : Int)), (37, .agg #[.int .i64 x.id, .int .i64 x.fr, .int .i64 x.to, .int .i64 x.sz]), (38, .slice (some ⟨b208, 0, none⟩) 1 1), (39, .slice A281 ((0 + n) + 1) c282), (40, .agg #[.int .i64 m, .slice A281 ((0 + n) + 1) c282])] iU9 (Uj1 iU9)), kk, x6, x13, x21, x297, lo274, ho299, by omega, nb289, nb290, nb291, nb293, ne275, ne276, ne277, c300⟩
     refine W.sn (fun b => .pointer (some ⟨b, 0, none⟩)) #[.int .i64 0, .slice none 0 0] 24 s213 rfl kk rfl (fun _ => by kernel_rfl) (fun b301 w302 hb303 k304 x305 s306 => ?_)
     apply F.nx
     have lo307 : w.heap.size ≤ b301 := Nl ((Sb c34 s213 nkk)).size (Nat.le_of_eq hb303)
     have ne308 : b2 ≠ b301 := Nat.ne_of_lt (Nat.lt_of_lt_of_eq (Nat.lt_of_lt_of_le (blk_lt x6) (s213).size) hb303)
     have ne309 : b9 ≠ b301 := Nat.ne_of_lt (Nat.lt_of_lt_of_eq (Nat.lt_of_lt_of_le (blk_lt x13) (s213).size) hb303)
     have ne310 : b17 ≠ b301 := Nat.ne_of_lt (Nat.lt_of_lt_of_eq (Nat.lt_of_lt_of_le (blk_lt x21) (s213).size) hb303)
     have ne311 : b61 ≠ b301 := Nat.ne_of_lt (Nat.lt_of_lt_of_eq (blk_lt x65) hb303)
     have x65 := (k304.block _ (blk_lt x65)).trans x65
     have x212 := (k304.block _ (blk_lt x212)).trans x212
     have ho313 := own_empty (base := w.heap.size) (size := 4) x65 lo67
     replace ho313 : World.ownsRow _ _ _ _ _ _ (pipesV []) := ho313
     have nb314 : Nb b2 (.slice (some ⟨b61, 0, none⟩) 0 0) := nb_new ne68
     have nb315 : Nb b9 (.slice (some ⟨b61, 0, none⟩) 0 0) := nb_new ne69
     have nb316 : Nb b17 (.slice (some ⟨b61, 0, none⟩) 0 0) := nb_new ne70
     have nb317 : Nb b208 (.slice (some ⟨b61, 0, none⟩) 0 0) := nb_new (Ne.symm ne218)
     have nb318 : Nb b301 (.slice (some ⟨b61, 0, none⟩) 0 0) := nb_new (Ne.symm ne311)
     replace ho313 : World.ownsRow _ _ _ _ _ _ (pipesV []) := ho313
     refine W.sapR (e := 38) (size := 4) (base := w.heap.size) (v := .slice (some ⟨b61, 0, none⟩) 0 0) (A := A) (m := n) (c := c) s306 rfl rfl rfl rfl kk kk kk ho313 (Rk ha (Sb c34 s306 nkk)) hf (pipes_one _) (by omega) (by have := ((Sb c34 s306 nkk)).size; omega) (.inr (fun kq e => by have := (s60).size; have := hb63; have e' := Option.some.inj e; simp at e'; omega)) (fun A319 cap320 w321 ho322 hg323 hat324 s325 => ?_)
     apply F.nx
     have nb326 : Nb b2 (.slice A319 (0 + n) cap320) := nb_app2 nb314 (Nat.lt_of_lt_of_le (blk_lt x6) (s306).size) hat324
     have nb327 : Nb b9 (.slice A319 (0 + n) cap320) := nb_app2 nb315 (Nat.lt_of_lt_of_le (blk_lt x13) (s306).size) hat324
     have nb328 : Nb b17 (.slice A319 (0 + n) cap320) := nb_app2 nb316 (Nat.lt_of_lt_of_le (blk_lt x21) (s306).size) hat324
     have nb329 : Nb b208 (.slice A319 (0 + n) cap320) := nb_app2 nb317 (blk_lt x212) hat324
     have x212 := (hg323.block _ (blk_lt x212) nb317).trans x212
     have nb330 : Nb b301 (.slice A319 (0 + n) cap320) := nb_app2 nb318 (blk_lt x305) hat324
     have x305 := (hg323.block _ (blk_lt x305) nb318).trans x305
     have ho322 := own_joinP ho322
     have fr331 : ∀ kq, (.slice A319 (0 + n) cap320 : Value).ownBlock = some kq → wlj1.heap.size ≤ kq := fun kq e => by
       have hs := (s306).size
       rcases hat324 with h | h
       · exact (show ∀ kq, Value.ownBlock _ = some kq → wlj1.heap.size ≤ kq from (fun kq e => by have := (s60).size; have := hb63; have e' := Option.some.inj e; simp at e'; omega)) kq (h.symm.trans e)
       · have := Option.some.inj (h.symm.trans e); omega
     refine Fc [.slice A319 (0 + n) cap320, .int .i64 (k2 : Int), .slice (some ⟨b208, 0, none⟩) 1 1] (InsertP_any A319 (0 + n) cap320 k2 b208 w.heap.size ([] ++ ps) x _ ((Sb c34 s325 nkk)).size ho322 (by rcases hat324 with h | h <;> rw [h] <;> simp [Value.ownBlock]) x212 nb329 (by omega) (by omega)) ?_
     rintro e w335 ⟨A332, c333, rfl, ho337, g336, hat339⟩
     have s338 := SG.of_grown s325 g336 (.inr fr331)
     refine ⟨_, rfl, s338, ?_⟩
     apply F.nx
     have nb340 : Nb b2 (.slice A332 ((0 + n) + 1) c333) := nb_app3 (v := .slice A319 (0 + n) cap320) nb326 (Nat.lt_of_lt_of_le (blk_lt x6) (s325).size) hat339
     have nb341 : Nb b9 (.slice A332 ((0 + n) + 1) c333) := nb_app3 (v := .slice A319 (0 + n) cap320) nb327 (Nat.lt_of_lt_of_le (blk_lt x13) (s325).size) hat339
     have nb342 : Nb b17 (.slice A332 ((0 + n) + 1) c333) := nb_app3 (v := .slice A319 (0 + n) cap320) nb328 (Nat.lt_of_lt_of_le (blk_lt x21) (s325).size) hat339
     have nb344 : Nb b301 (.slice A332 ((0 + n) + 1) c333) := nb_app3 (v := .slice A319 (0 + n) cap320) nb330 (blk_lt x305) hat339
     have x305 := (g336.block _ (blk_lt x305) nb330).trans x305
     have fr345 : ∀ kq, (.slice A332 ((0 + n) + 1) c333 : Value).ownBlock = some kq → wlj1.heap.size ≤ kq := fun kq e => by
       have hs := (s325).size
       rcases (show (.slice A332 ((0 + n) + 1) c333 : Value).ownBlock = (.slice A319 (0 + n) cap320 : Value).ownBlock ∨ ∀ k9, (.slice A332 ((0 + n) + 1) c333 : Value).ownBlock = some k9 → w321.heap.size ≤ k9 from hat339) with h | h
       · exact (show ∀ kq, (.slice A319 (0 + n) cap320 : Value).ownBlock = some kq → wlj1.heap.size ≤ kq from fr331) kq (by rw [← h]; exact e)
       · have := h kq e; omega
     refine Fq (.agg #[.int .i64 m, .slice A332 ((0 + n) + 1) c333]) (r_build rfl (vs := [(0, .int .i64 m), (1, .slice A332 ((0 + n) + 1) c333)]) kk kk) ?_
     refine W.ss (v := .agg #[.int .i64 m, .slice A332 ((0 + n) + 1) c333]) (j := 0) (news := [.int .i64 m, .slice A332 ((0 + n) + 1) c333]) (cs' := #[.int .i64 m, .slice A332 ((0 + n) + 1) c333]) s338 rfl kk rfl rfl kk kk x305 kk kk (by simp) kk kk (.inr (Nl (s213).size (Nat.le_of_eq hb303))) (fun w346 g347 x348 s349 => ?_)
     have ho350 := own_grown ho337 g347 (fun j e1 e2 => by cases e2; exact nb344 e1.symm)
     apply F.es
     have x6 := Sk s349 x6 onn
     have x13 := Sk s349 x13 onn
     have x21 := Sk s349 x21 onn
     have c351 := (Sb c34 s349 nkk)
     exact h9 0 _ _ ⟨A332, ((0 + n) + 1), c333, b301, (fun iU9 => lk [(2, .pointer (some ⟨b2, 0, none⟩)), (3, .pointer (some ⟨b9, 0, none⟩)), (4, .pointer (some ⟨b17, 0, none⟩)), (5, .bool false), (6, .int .i64 (k2 : Int)), (7, .pointer (some ⟨b301, 0, none⟩)), (30, .pointer (some ⟨b2, 0, none⟩)), (31, .int .i64 m), (32, .slice (some ⟨b61, 0, none⟩) 0 0), (33, .pointer (some ⟨b2, 1, none⟩)), (34, .slice A n c), (35, .slice A319 (0 + n) cap320), (36, .int .i64 (k2 : Int)), (37, .agg #[.int .i64 x.id, .int .i64 x.fr, .int .i64 x.to, .int .i64 x.sz]), (38, .slice (some ⟨b208, 0, none⟩) 1 1), (39, .slice A332 ((0 + n) + 1) c333), (40, .agg #[.int .i64 m, .slice A332 ((0 + n) + 1) c333])] iU9 (Uj1 iU9)), kk, x6, x13, x21, x348, lo307, ho350, by omega, nb340, nb341, nb342, nb344, ne308, ne309, ne310, c351⟩
    refine W.sn (fun b => .pointer (some ⟨b, 0, none⟩)) #[.int .i64 0, .slice none 0 0] 24 s66 rfl kk rfl (fun _ => by kernel_rfl) (fun b352 w353 hb354 k355 x356 s357 => ?_)
    apply F.nx
    have lo358 : w.heap.size ≤ b352 := Nl ((Sb c34 s66 nkk)).size (Nat.le_of_eq hb354)
    have ne359 : b2 ≠ b352 := Nat.ne_of_lt (Nat.lt_of_lt_of_eq (Nat.lt_of_lt_of_le (blk_lt x6) (s66).size) hb354)
    have ne360 : b9 ≠ b352 := Nat.ne_of_lt (Nat.lt_of_lt_of_eq (Nat.lt_of_lt_of_le (blk_lt x13) (s66).size) hb354)
    have ne361 : b17 ≠ b352 := Nat.ne_of_lt (Nat.lt_of_lt_of_eq (Nat.lt_of_lt_of_le (blk_lt x21) (s66).size) hb354)
    have ne362 : b61 ≠ b352 := Nat.ne_of_lt (Nat.lt_of_lt_of_eq (blk_lt x65) hb354)
    have x65 := (k355.block _ (blk_lt x65)).trans x65
    refine W.sbr ?_ ?_
    ·have ho363 := own_empty (base := w.heap.size) (size := 4) x65 lo67
     replace ho363 : World.ownsRow _ _ _ _ _ _ (pipesV []) := ho363
     have nb364 : Nb b2 (.slice (some ⟨b61, 0, none⟩) 0 0) := nb_new ne68
     have nb365 : Nb b9 (.slice (some ⟨b61, 0, none⟩) 0 0) := nb_new ne69
     have nb366 : Nb b17 (.slice (some ⟨b61, 0, none⟩) 0 0) := nb_new ne70
     have nb367 : Nb b352 (.slice (some ⟨b61, 0, none⟩) 0 0) := nb_new (Ne.symm ne362)
     replace ho363 : World.ownsRow _ _ _ _ _ _ (pipesV []) := ho363
     refine W.sapR (e := 38) (size := 4) (base := w.heap.size) (v := .slice (some ⟨b61, 0, none⟩) 0 0) (A := A) (m := n) (c := c) s357 rfl rfl rfl rfl kk kk kk ho363 (Rk ha (Sb c34 s357 nkk)) hf (pipes_one _) (by omega) (by have := ((Sb c34 s357 nkk)).size; omega) (.inr (fun kq e => by have := (s60).size; have := hb63; have e' := Option.some.inj e; simp at e'; omega)) (fun A368 cap369 w370 ho371 hg372 hat373 s374 => ?_)
     apply F.nx
     have nb375 : Nb b2 (.slice A368 (0 + n) cap369) := nb_app2 nb364 (Nat.lt_of_lt_of_le (blk_lt x6) (s357).size) hat373
     have nb376 : Nb b9 (.slice A368 (0 + n) cap369) := nb_app2 nb365 (Nat.lt_of_lt_of_le (blk_lt x13) (s357).size) hat373
     have nb377 : Nb b17 (.slice A368 (0 + n) cap369) := nb_app2 nb366 (Nat.lt_of_lt_of_le (blk_lt x21) (s357).size) hat373
     have nb378 : Nb b352 (.slice A368 (0 + n) cap369) := nb_app2 nb367 (blk_lt x356) hat373
     have x356 := (hg372.block _ (blk_lt x356) nb367).trans x356
     have ho371 := own_joinP ho371
     have fr379 : ∀ kq, (.slice A368 (0 + n) cap369 : Value).ownBlock = some kq → wlj1.heap.size ≤ kq := fun kq e => by
       have hs := (s357).size
       rcases hat373 with h | h
       · exact (show ∀ kq, Value.ownBlock _ = some kq → wlj1.heap.size ≤ kq from (fun kq e => by have := (s60).size; have := hb63; have e' := Option.some.inj e; simp at e'; omega)) kq (h.symm.trans e)
       · have := Option.some.inj (h.symm.trans e); omega
     refine W.sn (fun b => .slice (some ⟨b, 0, none⟩) 1 1) #[.int .i64 x.id, .int .i64 x.fr, .int .i64 x.to, .int .i64 x.sz] 38 s374 rfl kk rfl (fun _ => by kernel_rfl) (fun b380 w381 hb382 k383 x384 s385 => ?_)
     apply F.nx
     have lo386 : w.heap.size ≤ b380 := Nl ((Sb c34 s374 nkk)).size (Nat.le_of_eq hb382)
     have nb391 : Nb b380 (.slice A368 (0 + n) cap369) := nb_hi ho371 (Nat.le_of_eq hb382)
     have x356 := (k383.block _ (blk_lt x356)).trans x356
     have ho392 := own_kept ho371 k383
     refine Fc [.slice A368 (0 + n) cap369, .int .i64 (k2 : Int), .slice (some ⟨b380, 0, none⟩) 1 1] (InsertP_any A368 (0 + n) cap369 k2 b380 w.heap.size ([] ++ ps) x _ ((Sb c34 s385 nkk)).size ho392 (by rcases hat373 with h | h <;> rw [h] <;> simp [Value.ownBlock]) x384 nb391 (by omega) (by omega)) ?_
     rintro e w396 ⟨A393, c394, rfl, ho398, g397, hat400⟩
     have s399 := SG.of_grown s385 g397 (.inr fr379)
     refine ⟨_, rfl, s399, ?_⟩
     apply F.nx
     have nb401 : Nb b2 (.slice A393 ((0 + n) + 1) c394) := nb_app3 (v := .slice A368 (0 + n) cap369) nb375 (Nat.lt_of_lt_of_le (blk_lt x6) (s385).size) hat400
     have nb402 : Nb b9 (.slice A393 ((0 + n) + 1) c394) := nb_app3 (v := .slice A368 (0 + n) cap369) nb376 (Nat.lt_of_lt_of_le (blk_lt x13) (s385).size) hat400
     have nb403 : Nb b17 (.slice A393 ((0 + n) + 1) c394) := nb_app3 (v := .slice A368 (0 + n) cap369) nb377 (Nat.lt_of_lt_of_le (blk_lt x21) (s385).size) hat400
     have nb404 : Nb b352 (.slice A393 ((0 + n) + 1) c394) := nb_app3 (v := .slice A368 (0 + n) cap369) nb378 (blk_lt x356) hat400
     have x356 := (g397.block _ (blk_lt x356) nb378).trans x356
     have fr406 : ∀ kq, (.slice A393 ((0 + n) + 1) c394 : Value).ownBlock = some kq → wlj1.heap.size ≤ kq := fun kq e => by
       have hs := (s385).size
       rcases (show (.slice A393 ((0 + n) + 1) c394 : Value).ownBlock = (.slice A368 (0 + n) cap369 : Value).ownBlock ∨ ∀ k9, (.slice A393 ((0 + n) + 1) c394 : Value).ownBlock = some k9 → w381.heap.size ≤ k9 from hat400) with h | h
       · exact (show ∀ kq, (.slice A368 (0 + n) cap369 : Value).ownBlock = some kq → wlj1.heap.size ≤ kq from fr379) kq (by rw [← h]; exact e)
       · have := h kq e; omega
     refine Fq (.agg #[.int .i64 m, .slice A393 ((0 + n) + 1) c394]) (r_build rfl (vs := [(0, .int .i64 m), (1, .slice A393 ((0 + n) + 1) c394)]) kk kk) ?_
     refine W.ss (v := .agg #[.int .i64 m, .slice A393 ((0 + n) + 1) c394]) (j := 0) (news := [.int .i64 m, .slice A393 ((0 + n) + 1) c394]) (cs' := #[.int .i64 m, .slice A393 ((0 + n) + 1) c394]) s399 rfl kk rfl rfl kk kk x356 kk kk (by simp) kk kk (.inr (Nl (s66).size (Nat.le_of_eq hb354))) (fun w407 g408 x409 s410 => ?_)
     have ho411 := own_grown ho398 g408 (fun j e1 e2 => by cases e2; exact nb404 e1.symm)
     apply F.es
     have x6 := Sk s410 x6 onn
     have x13 := Sk s410 x13 onn
     have x21 := Sk s410 x21 onn
     have c412 := (Sb c34 s410 nkk)
     exact h9 0 _ _ ⟨A393, ((0 + n) + 1), c394, b352, (fun iU9 => lk [(2, .pointer (some ⟨b2, 0, none⟩)), (3, .pointer (some ⟨b9, 0, none⟩)), (4, .pointer (some ⟨b17, 0, none⟩)), (5, .bool false), (6, .int .i64 (k2 : Int)), (7, .pointer (some ⟨b352, 0, none⟩)), (30, .pointer (some ⟨b2, 0, none⟩)), (31, .int .i64 m), (32, .slice (some ⟨b61, 0, none⟩) 0 0), (33, .pointer (some ⟨b2, 1, none⟩)), (34, .slice A n c), (35, .slice A368 (0 + n) cap369), (36, .int .i64 (k2 : Int)), (37, .agg #[.int .i64 x.id, .int .i64 x.fr, .int .i64 x.to, .int .i64 x.sz]), (38, .slice (some ⟨b380, 0, none⟩) 1 1), (39, .slice A393 ((0 + n) + 1) c394), (40, .agg #[.int .i64 m, .slice A393 ((0 + n) + 1) c394])] iU9 (Uj1 iU9)), kk, x6, x13, x21, x409, lo358, ho411, by omega, nb401, nb402, nb403, nb404, ne359, ne360, ne361, c412⟩
    refine W.sn (fun b => .slice (some ⟨b, 0, none⟩) 1 1) #[.int .i64 x.id, .int .i64 x.fr, .int .i64 x.to, .int .i64 x.sz] 38 s357 rfl kk rfl (fun _ => by kernel_rfl) (fun b413 w414 hb415 k416 x417 s418 => ?_)
    apply F.nx
    have lo419 : w.heap.size ≤ b413 := Nl ((Sb c34 s357 nkk)).size (Nat.le_of_eq hb415)
    have ne423 : b61 ≠ b413 := Nat.ne_of_lt (Nat.lt_of_lt_of_eq (blk_lt x65) hb415)
    have x65 := (k416.block _ (blk_lt x65)).trans x65
    have x356 := (k416.block _ (blk_lt x356)).trans x356
    have ho425 := own_empty (base := w.heap.size) (size := 4) x65 lo67
    replace ho425 : World.ownsRow _ _ _ _ _ _ (pipesV []) := ho425
    have nb426 : Nb b2 (.slice (some ⟨b61, 0, none⟩) 0 0) := nb_new ne68
    have nb427 : Nb b9 (.slice (some ⟨b61, 0, none⟩) 0 0) := nb_new ne69
    have nb428 : Nb b17 (.slice (some ⟨b61, 0, none⟩) 0 0) := nb_new ne70
    have nb429 : Nb b352 (.slice (some ⟨b61, 0, none⟩) 0 0) := nb_new (Ne.symm ne362)
    have nb430 : Nb b413 (.slice (some ⟨b61, 0, none⟩) 0 0) := nb_new (Ne.symm ne423)
    replace ho425 : World.ownsRow _ _ _ _ _ _ (pipesV []) := ho425
    refine W.sapR (e := 38) (size := 4) (base := w.heap.size) (v := .slice (some ⟨b61, 0, none⟩) 0 0) (A := A) (m := n) (c := c) s418 rfl rfl rfl rfl kk kk kk ho425 (Rk ha (Sb c34 s418 nkk)) hf (pipes_one _) (by omega) (by have := ((Sb c34 s418 nkk)).size; omega) (.inr (fun kq e => by have := (s60).size; have := hb63; have e' := Option.some.inj e; simp at e'; omega)) (fun A431 cap432 w433 ho434 hg435 hat436 s437 => ?_)
    apply F.nx
    have nb438 : Nb b2 (.slice A431 (0 + n) cap432) := nb_app2 nb426 (Nat.lt_of_lt_of_le (blk_lt x6) (s418).size) hat436
    have nb439 : Nb b9 (.slice A431 (0 + n) cap432) := nb_app2 nb427 (Nat.lt_of_lt_of_le (blk_lt x13) (s418).size) hat436
    have nb440 : Nb b17 (.slice A431 (0 + n) cap432) := nb_app2 nb428 (Nat.lt_of_lt_of_le (blk_lt x21) (s418).size) hat436
    have nb441 : Nb b352 (.slice A431 (0 + n) cap432) := nb_app2 nb429 (blk_lt x356) hat436
    have x356 := (hg435.block _ (blk_lt x356) nb429).trans x356
    have nb442 : Nb b413 (.slice A431 (0 + n) cap432) := nb_app2 nb430 (blk_lt x417) hat436
    have x417 := (hg435.block _ (blk_lt x417) nb430).trans x417
    have ho434 := own_joinP ho434
    have fr443 : ∀ kq, (.slice A431 (0 + n) cap432 : Value).ownBlock = some kq → wlj1.heap.size ≤ kq := fun kq e => by
      have hs := (s418).size
      rcases hat436 with h | h
      · exact (show ∀ kq, Value.ownBlock _ = some kq → wlj1.heap.size ≤ kq from (fun kq e => by have := (s60).size; have := hb63; have e' := Option.some.inj e; simp at e'; omega)) kq (h.symm.trans e)
      · have := Option.some.inj (h.symm.trans e); omega
    refine Fc [.slice A431 (0 + n) cap432, .int .i64 (k2 : Int), .slice (some ⟨b413, 0, none⟩) 1 1] (InsertP_any A431 (0 + n) cap432 k2 b413 w.heap.size ([] ++ ps) x _ ((Sb c34 s437 nkk)).size ho434 (by rcases hat436 with h | h <;> rw [h] <;> simp [Value.ownBlock]) x417 nb442 (by omega) (by omega)) ?_
    rintro e w447 ⟨A444, c445, rfl, ho449, g448, hat451⟩
    have s450 := SG.of_grown s437 g448 (.inr fr443)
    refine ⟨_, rfl, s450, ?_⟩
    apply F.nx
    have nb452 : Nb b2 (.slice A444 ((0 + n) + 1) c445) := nb_app3 (v := .slice A431 (0 + n) cap432) nb438 (Nat.lt_of_lt_of_le (blk_lt x6) (s437).size) hat451
    have nb453 : Nb b9 (.slice A444 ((0 + n) + 1) c445) := nb_app3 (v := .slice A431 (0 + n) cap432) nb439 (Nat.lt_of_lt_of_le (blk_lt x13) (s437).size) hat451
    have nb454 : Nb b17 (.slice A444 ((0 + n) + 1) c445) := nb_app3 (v := .slice A431 (0 + n) cap432) nb440 (Nat.lt_of_lt_of_le (blk_lt x21) (s437).size) hat451
    have nb455 : Nb b352 (.slice A444 ((0 + n) + 1) c445) := nb_app3 (v := .slice A431 (0 + n) cap432) nb441 (blk_lt x356) hat451
    have x356 := (g448.block _ (blk_lt x356) nb441).trans x356
    have fr457 : ∀ kq, (.slice A444 ((0 + n) + 1) c445 : Value).ownBlock = some kq → wlj1.heap.size ≤ kq := fun kq e => by
      have hs := (s437).size
      rcases (show (.slice A444 ((0 + n) + 1) c445 : Value).ownBlock = (.slice A431 (0 + n) cap432 : Value).ownBlock ∨ ∀ k9, (.slice A444 ((0 + n) + 1) c445 : Value).ownBlock = some k9 → w433.heap.size ≤ k9 from hat451) with h | h
      · exact (show ∀ kq, (.slice A431 (0 + n) cap432 : Value).ownBlock = some kq → wlj1.heap.size ≤ kq from fr443) kq (by rw [← h]; exact e)
      · have := h kq e; omega
    refine Fq (.agg #[.int .i64 m, .slice A444 ((0 + n) + 1) c445]) (r_build rfl (vs := [(0, .int .i64 m), (1, .slice A444 ((0 + n) + 1) c445)]) kk kk) ?_
    refine W.ss (v := .agg #[.int .i64 m, .slice A444 ((0 + n) + 1) c445]) (j := 0) (news := [.int .i64 m, .slice A444 ((0 + n) + 1) c445]) (cs' := #[.int .i64 m, .slice A444 ((0 + n) + 1) c445]) s450 rfl kk rfl rfl kk kk x356 kk kk (by simp) kk kk (.inr (Nl (s66).size (Nat.le_of_eq hb354))) (fun w458 g459 x460 s461 => ?_)
    have ho462 := own_grown ho449 g459 (fun j e1 e2 => by cases e2; exact nb455 e1.symm)
    apply F.es
    have x6 := Sk s461 x6 onn
    have x13 := Sk s461 x13 onn
    have x21 := Sk s461 x21 onn
    have c463 := (Sb c34 s461 nkk)
    exact h9 0 _ _ ⟨A444, ((0 + n) + 1), c445, b352, (fun iU9 => lk [(2, .pointer (some ⟨b2, 0, none⟩)), (3, .pointer (some ⟨b9, 0, none⟩)), (4, .pointer (some ⟨b17, 0, none⟩)), (5, .bool false), (6, .int .i64 (k2 : Int)), (7, .pointer (some ⟨b352, 0, none⟩)), (30, .pointer (some ⟨b2, 0, none⟩)), (31, .int .i64 m), (32, .slice (some ⟨b61, 0, none⟩) 0 0), (33, .pointer (some ⟨b2, 1, none⟩)), (34, .slice A n c), (35, .slice A431 (0 + n) cap432), (36, .int .i64 (k2 : Int)), (37, .agg #[.int .i64 x.id, .int .i64 x.fr, .int .i64 x.to, .int .i64 x.sz]), (38, .slice (some ⟨b413, 0, none⟩) 1 1), (39, .slice A444 ((0 + n) + 1) c445), (40, .agg #[.int .i64 m, .slice A444 ((0 + n) + 1) c445])] iU9 (Uj1 iU9)), kk, x6, x13, x21, x460, lo358, ho462, by omega, nb452, nb453, nb454, nb455, ne359, ne360, ne361, c463⟩
   ·refine W.sn (fun b => .slice (some ⟨b, 0, none⟩) 1 1) #[.int .i64 x.id, .int .i64 x.fr, .int .i64 x.to, .int .i64 x.sz] 38 s60 rfl kk rfl (fun _ => by kernel_rfl) (fun b464 w465 hb466 k467 x468 s469 => ?_)
    apply F.nx
    have lo470 : w.heap.size ≤ b464 := Nl ((Sb c34 s60 nkk)).size (Nat.le_of_eq hb466)
    refine W.sbr ?_ ?_
    ·refine W.sn (fun b => .slice (some ⟨b, 0, none⟩) 0 0) #[] 38 s469 rfl kk rfl (fun _ => by kernel_rfl) (fun b474 w475 hb476 k477 x478 s479 => ?_)
     apply F.nx
     have lo480 : w.heap.size ≤ b474 := Nl ((Sb c34 s469 nkk)).size (Nat.le_of_eq hb476)
     have ne481 : b2 ≠ b474 := Nat.ne_of_lt (Nat.lt_of_lt_of_eq (Nat.lt_of_lt_of_le (blk_lt x6) (s469).size) hb476)
     have ne482 : b9 ≠ b474 := Nat.ne_of_lt (Nat.lt_of_lt_of_eq (Nat.lt_of_lt_of_le (blk_lt x13) (s469).size) hb476)
     have ne483 : b17 ≠ b474 := Nat.ne_of_lt (Nat.lt_of_lt_of_eq (Nat.lt_of_lt_of_le (blk_lt x21) (s469).size) hb476)
     have ne484 : b464 ≠ b474 := Nat.ne_of_lt (Nat.lt_of_lt_of_eq (blk_lt x468) hb476)
     have x468 := (k477.block _ (blk_lt x468)).trans x468
     refine W.sbr ?_ ?_
     ·have ho485 := own_empty (base := w.heap.size) (size := 4) x478 lo480
      replace ho485 : World.ownsRow _ _ _ _ _ _ (pipesV []) := ho485
      have nb486 : Nb b2 (.slice (some ⟨b474, 0, none⟩) 0 0) := nb_new ne481
      have nb487 : Nb b9 (.slice (some ⟨b474, 0, none⟩) 0 0) := nb_new ne482
      have nb488 : Nb b17 (.slice (some ⟨b474, 0, none⟩) 0 0) := nb_new ne483
      have nb489 : Nb b464 (.slice (some ⟨b474, 0, none⟩) 0 0) := nb_new ne484
      replace ho485 : World.ownsRow _ _ _ _ _ _ (pipesV []) := ho485
      refine W.sapR (e := 38) (size := 4) (base := w.heap.size) (v := .slice (some ⟨b474, 0, none⟩) 0 0) (A := A) (m := n) (c := c) s479 rfl rfl rfl rfl kk kk kk ho485 (Rk ha (Sb c34 s479 nkk)) hf (pipes_one _) (by omega) (by have := ((Sb c34 s479 nkk)).size; omega) (.inr (fun kq e => by have := (s469).size; have := hb476; have e' := Option.some.inj e; simp at e'; omega)) (fun A490 cap491 w492 ho493 hg494 hat495 s496 => ?_)
      apply F.nx
      have nb497 : Nb b2 (.slice A490 (0 + n) cap491) := nb_app2 nb486 (Nat.lt_of_lt_of_le (blk_lt x6) (s479).size) hat495
      have nb498 : Nb b9 (.slice A490 (0 + n) cap491) := nb_app2 nb487 (Nat.lt_of_lt_of_le (blk_lt x13) (s479).size) hat495
      have nb499 : Nb b17 (.slice A490 (0 + n) cap491) := nb_app2 nb488 (Nat.lt_of_lt_of_le (blk_lt x21) (s479).size) hat495
      have nb500 : Nb b464 (.slice A490 (0 + n) cap491) := nb_app2 nb489 (blk_lt x468) hat495
      have x468 := (hg494.block _ (blk_lt x468) nb489).trans x468
      have ho493 := own_joinP ho493
      have fr501 : ∀ kq, (.slice A490 (0 + n) cap491 : Value).ownBlock = some kq → wlj1.heap.size ≤ kq := fun kq e => by
        have hs := (s479).size
        rcases hat495 with h | h
        · exact (show ∀ kq, Value.ownBlock _ = some kq → wlj1.heap.size ≤ kq from (fun kq e => by have := (s469).size; have := hb476; have e' := Option.some.inj e; simp at e'; omega)) kq (h.symm.trans e)
        · have := Option.some.inj (h.symm.trans e); omega
      refine W.sbr ?_ ?_
      ·refine Fc [.slice A490 (0 + n) cap491, .int .i64 (k2 : Int), .slice (some ⟨b464, 0, none⟩) 1 1] (InsertP_any A490 (0 + n) cap491 k2 b464 w.heap.size ([] ++ ps) x _ ((Sb c34 s496 nkk)).size ho493 (by rcases hat495 with h | h <;> rw [h] <;> simp [Value.ownBlock]) x468 nb500 (by omega) (by omega)) ?_
       rintro e w505 ⟨A502, c503, rfl, ho507, g506, hat509⟩
       have s508 := SG.of_grown s496 g506 (.inr fr501)
       refine ⟨_, rfl, s508, ?_⟩
       apply F.nx
       have nb510 : Nb b2 (.slice A502 ((0 + n) + 1) c503) := nb_app3 (v := .slice A490 (0 + n) cap491) nb497 (Nat.lt_of_lt_of_le (blk_lt x6) (s496).size) hat509
       have nb511 : Nb b9 (.slice A502 ((0 + n) + 1) c503) := nb_app3 (v := .slice A490 (0 + n) cap491) nb498 (Nat.lt_of_lt_of_le (blk_lt x13) (s496).size) hat509
       have nb512 : Nb b17 (.slice A502 ((0 + n) + 1) c503) := nb_app3 (v := .slice A490 (0 + n) cap491) nb499 (Nat.lt_of_lt_of_le (blk_lt x21) (s496).size) hat509
       have x468 := (g506.block _ (blk_lt x468) nb500).trans x468
       have fr514 : ∀ kq, (.slice A502 ((0 + n) + 1) c503 : Value).ownBlock = some kq → wlj1.heap.size ≤ kq := fun kq e => by
         have hs := (s496).size
         rcases (show (.slice A502 ((0 + n) + 1) c503 : Value).ownBlock = (.slice A490 (0 + n) cap491 : Value).ownBlock ∨ ∀ k9, (.slice A502 ((0 + n) + 1) c503 : Value).ownBlock = some k9 → w492.heap.size ≤ k9 from hat509) with h | h
         · exact (show ∀ kq, (.slice A490 (0 + n) cap491 : Value).ownBlock = some kq → wlj1.heap.size ≤ kq from fr501) kq (by rw [← h]; exact e)
         · have := h kq e; omega
       refine Fq (.agg #[.int .i64 m, .slice A502 ((0 + n) + 1) c503]) (r_build rfl (vs := [(0, .int .i64 m), (1, .slice A502 ((0 + n) + 1) c503)]) kk kk) ?_
       refine W.sn (fun b => .pointer (some ⟨b, 0, none⟩)) #[.int .i64 0, .slice none 0 0] 24 s508 rfl kk rfl (fun _ => by kernel_rfl) (fun b515 w516 hb517 k518 x519 s520 => ?_)
       apply F.nx
       have lo521 : w.heap.size ≤ b515 := Nl ((Sb c34 s508 nkk)).size (Nat.le_of_eq hb517)
       have ne522 : b2 ≠ b515 := Nat.ne_of_lt (Nat.lt_of_lt_of_eq (Nat.lt_of_lt_of_le (blk_lt x6) (s508).size) hb517)
       have ne523 : b9 ≠ b515 := Nat.ne_of_lt (Nat.lt_of_lt_of_eq (Nat.lt_of_lt_of_le (blk_lt x13) (s508).size) hb517)
       have ne524 : b17 ≠ b515 := Nat.ne_of_lt (Nat.lt_of_lt_of_eq (Nat.lt_of_lt_of_le (blk_lt x21) (s508).size) hb517)
       have ne525 : b464 ≠ b515 := Nat.ne_of_lt (Nat.lt_of_lt_of_eq (blk_lt x468) hb517)
       have nb526 : Nb b515 (.slice A502 ((0 + n) + 1) c503) := nb_hi ho507 (Nat.le_of_eq hb517)
       have x468 := (k518.block _ (blk_lt x468)).trans x468
       have ho527 := own_kept ho507 k518
       refine W.ss (v := .agg #[.int .i64 m, .slice A502 ((0 + n) + 1) c503]) (j := 0) (news := [.int .i64 m, .slice A502 ((0 + n) + 1) c503]) (cs' := #[.int .i64 m, .slice A502 ((0 + n) + 1) c503]) s520 rfl kk rfl rfl kk kk x519 kk kk (by simp) kk kk (.inr (Nl (s508).size (Nat.le_of_eq hb517))) (fun w528 g529 x530 s531 => ?_)
       have x468 := (g529.block _ (blk_lt x468) (fun e9 => ne525 (Option.some.inj e9))).trans x468
       have ho532 := own_grown ho527 g529 (fun j e1 e2 => by cases e2; exact nb526 e1.symm)
       apply F.es
       have x6 := Sk s531 x6 onn
       have x13 := Sk s531 x13 onn
       have x21 := Sk s531 x21 onn
       have c533 := (Sb c34 s531 nkk)
       exact h9 0 _ _ ⟨A502, ((0 + n) + 1), c503, b515, (fun iU9 => lk [(2, .pointer (some ⟨b2, 0, none⟩)), (3, .pointer (some ⟨b9, 0, none⟩)), (4, .pointer (some ⟨b17, 0, none⟩)), (5, .bool false), (6, .int .i64 (k2 : Int)), (7, .pointer (some ⟨b515, 0, none⟩)), (30, .pointer (some ⟨b2, 0, none⟩)), (31, .int .i64 m), (32, .slice (some ⟨b474, 0, none⟩) 0 0), (33, .pointer (some ⟨b2, 1, none⟩)), (34, .slice A n c), (35, .slice A490 (0 + n) cap491), (36, .int .i64 (k2 : Int)), (37, .agg #[.int .i64 x.id, .int .i64 x.fr, .int .i64 x.to, .int .i64 x.sz]), (38, .slice (some ⟨b464, 0, none⟩) 1 1), (39, .slice A502 ((0 + n) + 1) c503), (40, .agg #[.int .i64 m, .slice A502 ((0 + n) + 1) c503])] iU9 (Uj1 iU9)), kk, x6, x13, x21, x530, lo521, ho532, by omega, nb510, nb511, nb512, nb526, ne522, ne523, ne524, c533⟩
      refine W.sn (fun b => .pointer (some ⟨b, 0, none⟩)) #[.int .i64 0, .slice none 0 0] 24 s496 rfl kk rfl (fun _ => by kernel_rfl) (fun b534 w535 hb536 k537 x538 s539 => ?_)
      apply F.nx
      have lo540 : w.heap.size ≤ b534 := Nl ((Sb c34 s496 nkk)).size (Nat.le_of_eq hb536)
      have ne541 : b2 ≠ b534 := Nat.ne_of_lt (Nat.lt_of_lt_of_eq (Nat.lt_of_lt_of_le (blk_lt x6) (s496).size) hb536)
      have ne542 : b9 ≠ b534 := Nat.ne_of_lt (Nat.lt_of_lt_of_eq (Nat.lt_of_lt_of_le (blk_lt x13) (s496).size) hb536)
      have ne543 : b17 ≠ b534 := Nat.ne_of_lt (Nat.lt_of_lt_of_eq (Nat.lt_of_lt_of_le (blk_lt x21) (s496).size) hb536)
      have ne544 : b464 ≠ b534 := Nat.ne_of_lt (Nat.lt_of_lt_of_eq (blk_lt x468) hb536)
      have nb545 : Nb b534 (.slice A490 (0 + n) cap491) := nb_hi ho493 (Nat.le_of_eq hb536)
      have x468 := (k537.block _ (blk_lt x468)).trans x468
      have ho546 := own_kept ho493 k537
      refine Fc [.slice A490 (0 + n) cap491, .int .i64 (k2 : Int), .slice (some ⟨b464, 0, none⟩) 1 1] (InsertP_any A490 (0 + n) cap491 k2 b464 w.heap.size ([] ++ ps) x _ ((Sb c34 s539 nkk)).size ho546 (by rcases hat495 with h | h <;> rw [h] <;> simp [Value.ownBlock]) x468 nb500 (by omega) (by omega)) ?_
      rintro e w550 ⟨A547, c548, rfl, ho552, g551, hat554⟩
      have s553 := SG.of_grown s539 g551 (.inr fr501)
      refine ⟨_, rfl, s553, ?_⟩
      apply F.nx
      have nb555 : Nb b2 (.slice A547 ((0 + n) + 1) c548) := nb_app3 (v := .slice A490 (0 + n) cap491) nb497 (Nat.lt_of_lt_of_le (blk_lt x6) (s539).size) hat554
      have nb556 : Nb b9 (.slice A547 ((0 + n) + 1) c548) := nb_app3 (v := .slice A490 (0 + n) cap491) nb498 (Nat.lt_of_lt_of_le (blk_lt x13) (s539).size) hat554
      have nb557 : Nb b17 (.slice A547 ((0 + n) + 1) c548) := nb_app3 (v := .slice A490 (0 + n) cap491) nb499 (Nat.lt_of_lt_of_le (blk_lt x21) (s539).size) hat554
      have x468 := (g551.block _ (blk_lt x468) nb500).trans x468
      have nb559 : Nb b534 (.slice A547 ((0 + n) + 1) c548) := nb_app3 (v := .slice A490 (0 + n) cap491) nb545 (blk_lt x538) hat554
      have x538 := (g551.block _ (blk_lt x538) nb545).trans x538
      have fr560 : ∀ kq, (.slice A547 ((0 + n) + 1) c548 : Value).ownBlock = some kq → wlj1.heap.size ≤ kq := fun kq e => by
        have hs := (s539).size
        rcases (show (.slice A547 ((0 + n) + 1) c548 : Value).ownBlock = (.slice A490 (0 + n) cap491 : Value).ownBlock ∨ ∀ k9, (.slice A547 ((0 + n) + 1) c548 : Value).ownBlock = some k9 → w535.heap.size ≤ k9 from hat554) with h | h
        · exact (show ∀ kq, (.slice A490 (0 + n) cap491 : Value).ownBlock = some kq → wlj1.heap.size ≤ kq from fr501) kq (by rw [← h]; exact e)
        · have := h kq e; omega
      refine Fq (.agg #[.int .i64 m, .slice A547 ((0 + n) + 1) c548]) (r_build rfl (vs := [(0, .int .i64 m), (1, .slice A547 ((0 + n) + 1) c548)]) kk kk) ?_
      refine W.ss (v := .agg #[.int .i64 m, .slice A547 ((0 + n) + 1) c548]) (j := 0) (news := [.int .i64 m, .slice A547 ((0 + n) + 1) c548]) (cs' := #[.int .i64 m, .slice A547 ((0 + n) + 1) c548]) s553 rfl kk rfl rfl kk kk x538 kk kk (by simp) kk kk (.inr (Nl (s496).size (Nat.le_of_eq hb536))) (fun w561 g562 x563 s564 => ?_)
      have x468 := (g562.block _ (blk_lt x468) (fun e9 => ne544 (Option.some.inj e9))).trans x468
      have ho565 := own_grown ho552 g562 (fun j e1 e2 => by cases e2; exact nb559 e1.symm)
      apply F.es
      have x6 := Sk s564 x6 onn
      have x13 := Sk s564 x13 onn
      have x21 := Sk s564 x21 onn
      have c566 := (Sb c34 s564 nkk)
      exact h9 0 _ _ ⟨A547, ((0 + n) + 1), c548, b534, (fun iU9 => lk [(2, .pointer (some ⟨b2, 0, none⟩)), (3, .pointer (some ⟨b9, 0, none⟩)), (4, .pointer (some ⟨b17, 0, none⟩)), (5, .bool false), (6, .int .i64 (k2 : Int)), (7, .pointer (some ⟨b534, 0, none⟩)), (30, .pointer (some ⟨b2, 0, none⟩)), (31, .int .i64 m), (32, .slice (some ⟨b474, 0, none⟩) 0 0), (33, .pointer (some ⟨b2, 1, none⟩)), (34, .slice A n c), (35, .slice A490 (0 + n) cap491), (36, .int .i64 (k2 : Int)), (37, .agg #[.int .i64 x.id, .int .i64 x.fr, .int .i64 x.to, .int .i64 x.sz]), (38, .slice (some ⟨b464, 0, none⟩) 1 1), (39, .slice A547 ((0 + n) + 1) c548), (40, .agg #[.int .i64 m, .slice A547 ((0 + n) + 1) c548])] iU9 (Uj1 iU9)), kk, x6, x13, x21, x563, lo540, ho565, by omega, nb555, nb556, nb557, nb559, ne541, ne542, ne543, c566⟩
     refine W.sn (fun b => .pointer (some ⟨b, 0, none⟩)) #[.int .i64 0, .slice none 0 0] 24 s479 rfl kk rfl (fun _ => by kernel_rfl) (fun b567 w568 hb569 k570 x571 s572 => ?_)
     apply F.nx
     have lo573 : w.heap.size ≤ b567 := Nl ((Sb c34 s479 nkk)).size (Nat.le_of_eq hb569)
     have ne574 : b2 ≠ b567 := Nat.ne_of_lt (Nat.lt_of_lt_of_eq (Nat.lt_of_lt_of_le (blk_lt x6) (s479).size) hb569)
     have ne575 : b9 ≠ b567 := Nat.ne_of_lt (Nat.lt_of_lt_of_eq (Nat.lt_of_lt_of_le (blk_lt x13) (s479).size) hb569)
     have ne576 : b17 ≠ b567 := Nat.ne_of_lt (Nat.lt_of_lt_of_eq (Nat.lt_of_lt_of_le (blk_lt x21) (s479).size) hb569)
     have ne577 : b464 ≠ b567 := Nat.ne_of_lt (Nat.lt_of_lt_of_eq (blk_lt x468) hb569)
     have ne578 : b474 ≠ b567 := Nat.ne_of_lt (Nat.lt_of_lt_of_eq (blk_lt x478) hb569)
     have x468 := (k570.block _ (blk_lt x468)).trans x468
     have x478 := (k570.block _ (blk_lt x478)).trans x478
     have ho579 := own_empty (base := w.heap.size) (size := 4) x478 lo480
     replace ho579 : World.ownsRow _ _ _ _ _ _ (pipesV []) := ho579
     have nb580 : Nb b2 (.slice (some ⟨b474, 0, none⟩) 0 0) := nb_new ne481
     have nb581 : Nb b9 (.slice (some ⟨b474, 0, none⟩) 0 0) := nb_new ne482
     have nb582 : Nb b17 (.slice (some ⟨b474, 0, none⟩) 0 0) := nb_new ne483
     have nb583 : Nb b464 (.slice (some ⟨b474, 0, none⟩) 0 0) := nb_new ne484
     have nb584 : Nb b567 (.slice (some ⟨b474, 0, none⟩) 0 0) := nb_new (Ne.symm ne578)
     replace ho579 : World.ownsRow _ _ _ _ _ _ (pipesV []) := ho579
     refine W.sapR (e := 38) (size := 4) (base := w.heap.size) (v := .slice (some ⟨b474, 0, none⟩) 0 0) (A := A) (m := n) (c := c) s572 rfl rfl rfl rfl kk kk kk ho579 (Rk ha (Sb c34 s572 nkk)) hf (pipes_one _) (by omega) (by have := ((Sb c34 s572 nkk)).size; omega) (.inr (fun kq e => by have := (s469).size; have := hb476; have e' := Option.some.inj e; simp at e'; omega)) (fun A585 cap586 w587 ho588 hg589 hat590 s591 => ?_)
     apply F.nx
     have nb592 : Nb b2 (.slice A585 (0 + n) cap586) := nb_app2 nb580 (Nat.lt_of_lt_of_le (blk_lt x6) (s572).size) hat590
     have nb593 : Nb b9 (.slice A585 (0 + n) cap586) := nb_app2 nb581 (Nat.lt_of_lt_of_le (blk_lt x13) (s572).size) hat590
     have nb594 : Nb b17 (.slice A585 (0 + n) cap586) := nb_app2 nb582 (Nat.lt_of_lt_of_le (blk_lt x21) (s572).size) hat590
     have nb595 : Nb b464 (.slice A585 (0 + n) cap586) := nb_app2 nb583 (blk_lt x468) hat590
     have x468 := (hg589.block _ (blk_lt x468) nb583).trans x468
     have nb596 : Nb b567 (.slice A585 (0 + n) cap586) := nb_app2 nb584 (blk_lt x571) hat590
     have x571 := (hg589.block _ (blk_lt x571) nb584).trans x571
     have ho588 := own_joinP ho588
     have fr597 : ∀ kq, (.slice A585 (0 + n) cap586 : Value).ownBlock = some kq → wlj1.heap.size ≤ kq := fun kq e => by
       have hs := (s572).size
       rcases hat590 with h | h
       · exact (show ∀ kq, Value.ownBlock _ = some kq → wlj1.heap.size ≤ kq from (fun kq e => by have := (s469).size; have := hb476; have e' := Option.some.inj e; simp at e'; omega)) kq (h.symm.trans e)
       · have := Option.some.inj (h.symm.trans e); omega
     refine Fc [.slice A585 (0 + n) cap586, .int .i64 (k2 : Int), .slice (some ⟨b464, 0, none⟩) 1 1] (InsertP_any A585 (0 + n) cap586 k2 b464 w.heap.size ([] ++ ps) x _ ((Sb c34 s591 nkk)).size ho588 (by rcases hat590 with h | h <;> rw [h] <;> simp [Value.ownBlock]) x468 nb595 (by omega) (by omega)) ?_
     rintro e w601 ⟨A598, c599, rfl, ho603, g602, hat605⟩
     have s604 := SG.of_grown s591 g602 (.inr fr597)
     refine ⟨_, rfl, s604, ?_⟩
     apply F.nx
     have nb606 : Nb b2 (.slice A598 ((0 + n) + 1) c599) := nb_app3 (v := .slice A585 (0 + n) cap586) nb592 (Nat.lt_of_lt_of_le (blk_lt x6) (s591).size) hat605
     have nb607 : Nb b9 (.slice A598 ((0 + n) + 1) c599) := nb_app3 (v := .slice A585 (0 + n) cap586) nb593 (Nat.lt_of_lt_of_le (blk_lt x13) (s591).size) hat605
     have nb608 : Nb b17 (.slice A598 ((0 + n) + 1) c599) := nb_app3 (v := .slice A585 (0 + n) cap586) nb594 (Nat.lt_of_lt_of_le (blk_lt x21) (s591).size) hat605
     have x468 := (g602.block _ (blk_lt x468) nb595).trans x468
     have nb610 : Nb b567 (.slice A598 ((0 + n) + 1) c599) := nb_app3 (v := .slice A585 (0 + n) cap586) nb596 (blk_lt x571) hat605
     have x571 := (g602.block _ (blk_lt x571) nb596).trans x571
     have fr611 : ∀ kq, (.slice A598 ((0 + n) + 1) c599 : Value).ownBlock = some kq → wlj1.heap.size ≤ kq := fun kq e => by
       have hs := (s591).size
       rcases (show (.slice A598 ((0 + n) + 1) c599 : Value).ownBlock = (.slice A585 (0 + n) cap586 : Value).ownBlock ∨ ∀ k9, (.slice A598 ((0 + n) + 1) c599 : Value).ownBlock = some k9 → w587.heap.size ≤ k9 from hat605) with h | h
       · exact (show ∀ kq, (.slice A585 (0 + n) cap586 : Value).ownBlock = some kq → wlj1.heap.size ≤ kq from fr597) kq (by rw [← h]; exact e)
       · have := h kq e; omega
     refine Fq (.agg #[.int .i64 m, .slice A598 ((0 + n) + 1) c599]) (r_build rfl (vs := [(0, .int .i64 m), (1, .slice A598 ((0 + n) + 1) c599)]) kk kk) ?_
     refine W.ss (v := .agg #[.int .i64 m, .slice A598 ((0 + n) + 1) c599]) (j := 0) (news := [.int .i64 m, .slice A598 ((0 + n) + 1) c599]) (cs' := #[.int .i64 m, .slice A598 ((0 + n) + 1) c599]) s604 rfl kk rfl rfl kk kk x571 kk kk (by simp) kk kk (.inr (Nl (s479).size (Nat.le_of_eq hb569))) (fun w612 g613 x614 s615 => ?_)
     have x468 := (g613.block _ (blk_lt x468) (fun e9 => ne577 (Option.some.inj e9))).trans x468
     have ho616 := own_grown ho603 g613 (fun j e1 e2 => by cases e2; exact nb610 e1.symm)
     apply F.es
     have x6 := Sk s615 x6 onn
     have x13 := Sk s615 x13 onn
     have x21 := Sk s615 x21 onn
     have c617 := (Sb c34 s615 nkk)
     exact h9 0 _ _ ⟨A598, ((0 + n) + 1), c599, b567, (fun iU9 => lk [(2, .pointer (some ⟨b2, 0, none⟩)), (3, .pointer (some ⟨b9, 0, none⟩)), (4, .pointer (some ⟨b17, 0, none⟩)), (5, .bool false), (6, .int .i64 (k2 : Int)), (7, .pointer (some ⟨b567, 0, none⟩)), (30, .pointer (some ⟨b2, 0, none⟩)), (31, .int .i64 m), (32, .slice (some ⟨b474, 0, none⟩) 0 0), (33, .pointer (some ⟨b2, 1, none⟩)), (34, .slice A n c), (35, .slice A585 (0 + n) cap586), (36, .int .i64 (k2 : Int)), (37, .agg #[.int .i64 x.id, .int .i64 x.fr, .int .i64 x.to, .int .i64 x.sz]), (38, .slice (some ⟨b464, 0, none⟩) 1 1), (39, .slice A598 ((0 + n) + 1) c599), (40, .agg #[.int .i64 m, .slice A598 ((0 + n) + 1) c599])] iU9 (Uj1 iU9)), kk, x6, x13, x21, x614, lo573, ho616, by omega, nb606, nb607, nb608, nb610, ne574, ne575, ne576, c617⟩
    refine W.sn (fun b => .pointer (some ⟨b, 0, none⟩)) #[.int .i64 0, .slice none 0 0] 24 s469 rfl kk rfl (fun _ => by kernel_rfl) (fun b618 w619 hb620 k621 x622 s623 => ?_)
    apply F.nx
    have lo624 : w.heap.size ≤ b618 := Nl ((Sb c34 s469 nkk)).size (Nat.le_of_eq hb620)
    have ne625 : b2 ≠ b618 := Nat.ne_of_lt (Nat.lt_of_lt_of_eq (Nat.lt_of_lt_of_le (blk_lt x6) (s469).size) hb620)
    have ne626 : b9 ≠ b618 := Nat.ne_of_lt (Nat.lt_of_lt_of_eq (Nat.lt_of_lt_of_le (blk_lt x13) (s469).size) hb620)
    have ne627 : b17 ≠ b618 := Nat.ne_of_lt (Nat.lt_of_lt_of_eq (Nat.lt_of_lt_of_le (blk_lt x21) (s469).size) hb620)
    have x468 := (k621.block _ (blk_lt x468)).trans x468
    refine W.sn (fun b => .slice (some ⟨b, 0, none⟩) 0 0) #[] 38 s623 rfl kk rfl (fun _ => by kernel_rfl) (fun b629 w630 hb631 k632 x633 s634 => ?_)
    apply F.nx
    have lo635 : w.heap.size ≤ b629 := Nl ((Sb c34 s623 nkk)).size (Nat.le_of_eq hb631)
    have ne636 : b2 ≠ b629 := Nat.ne_of_lt (Nat.lt_of_lt_of_eq (Nat.lt_of_lt_of_le (blk_lt x6) (s623).size) hb631)
    have ne637 : b9 ≠ b629 := Nat.ne_of_lt (Nat.lt_of_lt_of_eq (Nat.lt_of_lt_of_le (blk_lt x13) (s623).size) hb631)
    have ne638 : b17 ≠ b629 := Nat.ne_of_lt (Nat.lt_of_lt_of_eq (Nat.lt_of_lt_of_le (blk_lt x21) (s623).size) hb631)
    have ne639 : b464 ≠ b629 := Nat.ne_of_lt (Nat.lt_of_lt_of_eq (blk_lt x468) hb631)
    have ne640 : b618 ≠ b629 := Nat.ne_of_lt (Nat.lt_of_lt_of_eq (blk_lt x622) hb631)
    have x468 := (k632.block _ (blk_lt x468)).trans x468
    have x622 := (k632.block _ (blk_lt x622)).trans x622
    have ho641 := own_empty (base := w.heap.size) (size := 4) x633 lo635
    replace ho641 : World.ownsRow _ _ _ _ _ _ (pipesV []) := ho641
    have nb642 : Nb b2 (.slice (some ⟨b629, 0, none⟩) 0 0) := nb_new ne636
    have nb643 : Nb b9 (.slice (some ⟨b629, 0, none⟩) 0 0) := nb_new ne637
    have nb644 : Nb b17 (.slice (some ⟨b629, 0, none⟩) 0 0) := nb_new ne638
    have nb645 : Nb b464 (.slice (some ⟨b629, 0, none⟩) 0 0) := nb_new ne639
    have nb646 : Nb b618 (.slice (some ⟨b629, 0, none⟩) 0 0) := nb_new ne640
    replace ho641 : World.ownsRow _ _ _ _ _ _ (pipesV []) := ho641
    refine W.sapR (e := 38) (size := 4) (base := w.heap.size) (v := .slice (some ⟨b629, 0, none⟩) 0 0) (A := A) (m := n) (c := c) s634 rfl rfl rfl rfl kk kk kk ho641 (Rk ha (Sb c34 s634 nkk)) hf (pipes_one _) (by omega) (by have := ((Sb c34 s634 nkk)).size; omega) (.inr (fun kq e => by have := (s623).size; have := hb631; have e' := Option.some.inj e; simp at e'; omega)) (fun A647 cap648 w649 ho650 hg651 hat652 s653 => ?_)
    apply F.nx
    have nb654 : Nb b2 (.slice A647 (0 + n) cap648) := nb_app2 nb642 (Nat.lt_of_lt_of_le (blk_lt x6) (s634).size) hat652
    have nb655 : Nb b9 (.slice A647 (0 + n) cap648) := nb_app2 nb643 (Nat.lt_of_lt_of_le (blk_lt x13) (s634).size) hat652
    have nb656 : Nb b17 (.slice A647 (0 + n) cap648) := nb_app2 nb644 (Nat.lt_of_lt_of_le (blk_lt x21) (s634).size) hat652
    have nb657 : Nb b464 (.slice A647 (0 + n) cap648) := nb_app2 nb645 (blk_lt x468) hat652
    have x468 := (hg651.block _ (blk_lt x468) nb645).trans x468
    have nb658 : Nb b618 (.slice A647 (0 + n) cap648) := nb_app2 nb646 (blk_lt x622) hat652
    have x622 := (hg651.block _ (blk_lt x622) nb646).trans x622
    have ho650 := own_joinP ho650
    have fr659 : ∀ kq, (.slice A647 (0 + n) cap648 : Value).ownBlock = some kq → wlj1.heap.size ≤ kq := fun kq e => by
      have hs := (s634).size
      rcases hat652 with h | h
      · exact (show ∀ kq, Value.ownBlock _ = some kq → wlj1.heap.size ≤ kq from (fun kq e => by have := (s623).size; have := hb631; have e' := Option.some.inj e; simp at e'; omega)) kq (h.symm.trans e)
      · have := Option.some.inj (h.symm.trans e); omega
    refine Fc [.slice A647 (0 + n) cap648, .int .i64 (k2 : Int), .slice (some ⟨b464, 0, none⟩) 1 1] (InsertP_any A647 (0 + n) cap648 k2 b464 w.heap.size ([] ++ ps) x _ ((Sb c34 s653 nkk)).size ho650 (by rcases hat652 with h | h <;> rw [h] <;> simp [Value.ownBlock]) x468 nb657 (by omega) (by omega)) ?_
    rintro e w663 ⟨A660, c661, rfl, ho665, g664, hat667⟩
    have s666 := SG.of_grown s653 g664 (.inr fr659)
    refine ⟨_, rfl, s666, ?_⟩
    apply F.nx
    have nb668 : Nb b2 (.slice A660 ((0 + n) + 1) c661) := nb_app3 (v := .slice A647 (0 + n) cap648) nb654 (Nat.lt_of_lt_of_le (blk_lt x6) (s653).size) hat667
    have nb669 : Nb b9 (.slice A660 ((0 + n) + 1) c661) := nb_app3 (v := .slice A647 (0 + n) cap648) nb655 (Nat.lt_of_lt_of_le (blk_lt x13) (s653).size) hat667
    have nb670 : Nb b17 (.slice A660 ((0 + n) + 1) c661) := nb_app3 (v := .slice A647 (0 + n) cap648) nb656 (Nat.lt_of_lt_of_le (blk_lt x21) (s653).size) hat667
    have nb672 : Nb b618 (.slice A660 ((0 + n) + 1) c661) := nb_app3 (v := .slice A647 (0 + n) cap648) nb658 (blk_lt x622) hat667
    have x622 := (g664.block _ (blk_lt x622) nb658).trans x622
    have fr673 : ∀ kq, (.slice A660 ((0 + n) + 1) c661 : Value).ownBlock = some kq → wlj1.heap.size ≤ kq := fun kq e => by
      have hs := (s653).size
      rcases (show (.slice A660 ((0 + n) + 1) c661 : Value).ownBlock = (.slice A647 (0 + n) cap648 : Value).ownBlock ∨ ∀ k9, (.slice A660 ((0 + n) + 1) c661 : Value).ownBlock = some k9 → w649.heap.size ≤ k9 from hat667) with h | h
      · exact (show ∀ kq, (.slice A647 (0 + n) cap648 : Value).ownBlock = some kq → wlj1.heap.size ≤ kq from fr659) kq (by rw [← h]; exact e)
      · have := h kq e; omega
    refine Fq (.agg #[.int .i64 m, .slice A660 ((0 + n) + 1) c661]) (r_build rfl (vs := [(0, .int .i64 m), (1, .slice A660 ((0 + n) + 1) c661)]) kk kk) ?_
    refine W.ss (v := .agg #[.int .i64 m, .slice A660 ((0 + n) + 1) c661]) (j := 0) (news := [.int .i64 m, .slice A660 ((0 + n) + 1) c661]) (cs' := #[.int .i64 m, .slice A660 ((0 + n) + 1) c661]) s666 rfl kk rfl rfl kk kk x622 kk kk (by simp) kk kk (.inr (Nl (s469).size (Nat.le_of_eq hb620))) (fun w674 g675 x676 s677 => ?_)
    have ho678 := own_grown ho665 g675 (fun j e1 e2 => by cases e2; exact nb672 e1.symm)
    apply F.es
    have x6 := Sk s677 x6 onn
    have x13 := Sk s677 x13 onn
    have x21 := Sk s677 x21 onn
    have c679 := (Sb c34 s677 nkk)
    exact h9 0 _ _ ⟨A660, ((0 + n) + 1), c661, b618, (fun iU9 => lk [(2, .pointer (some ⟨b2, 0, none⟩)), (3, .pointer (some ⟨b9, 0, none⟩)), (4, .pointer (some ⟨b17, 0, none⟩)), (5, .bool false), (6, .int .i64 (k2 : Int)), (7, .pointer (some ⟨b618, 0, none⟩)), (30, .pointer (some ⟨b2, 0, none⟩)), (31, .int .i64 m), (32, .slice (some ⟨b629, 0, none⟩) 0 0), (33, .pointer (some ⟨b2, 1, none⟩)), (34, .slice A n c), (35, .slice A647 (0 + n) cap648), (36, .int .i64 (k2 : Int)), (37, .agg #[.int .i64 x.id, .int .i64 x.fr, .int .i64 x.to, .int .i64 x.sz]), (38, .slice (some ⟨b464, 0, none⟩) 1 1), (39, .slice A660 ((0 + n) + 1) c661), (40, .agg #[.int .i64 m, .slice A660 ((0 + n) + 1) c661])] iU9 (Uj1 iU9)), kk, x6, x13, x21, x676, lo624, ho678, by omega, nb668, nb669, nb670, nb672, ne625, ne626, ne627, c679⟩
   refine W.sn (fun b => .pointer (some ⟨b, 0, none⟩)) #[.int .i64 0, .slice none 0 0] 24 s60 rfl kk rfl (fun _ => by kernel_rfl) (fun b680 w681 hb682 k683 x684 s685 => ?_)
   apply F.nx
   have lo686 : w.heap.size ≤ b680 := Nl ((Sb c34 s60 nkk)).size (Nat.le_of_eq hb682)
   have ne687 : b2 ≠ b680 := Nat.ne_of_lt (Nat.lt_of_lt_of_eq (Nat.lt_of_lt_of_le (blk_lt x6) (s60).size) hb682)
   have ne688 : b9 ≠ b680 := Nat.ne_of_lt (Nat.lt_of_lt_of_eq (Nat.lt_of_lt_of_le (blk_lt x13) (s60).size) hb682)
   have ne689 : b17 ≠ b680 := Nat.ne_of_lt (Nat.lt_of_lt_of_eq (Nat.lt_of_lt_of_le (blk_lt x21) (s60).size) hb682)
   refine W.sbr ?_ ?_
   ·refine W.sn (fun b => .slice (some ⟨b, 0, none⟩) 0 0) #[] 38 s685 rfl kk rfl (fun _ => by kernel_rfl) (fun b690 w691 hb692 k693 x694 s695 => ?_)
    apply F.nx
    have lo696 : w.heap.size ≤ b690 := Nl ((Sb c34 s685 nkk)).size (Nat.le_of_eq hb692)
    have ne697 : b2 ≠ b690 := Nat.ne_of_lt (Nat.lt_of_lt_of_eq (Nat.lt_of_lt_of_le (blk_lt x6) (s685).size) hb692)
    have ne698 : b9 ≠ b690 := Nat.ne_of_lt (Nat.lt_of_lt_of_eq (Nat.lt_of_lt_of_le (blk_lt x13) (s685).size) hb692)
    have ne699 : b17 ≠ b690 := Nat.ne_of_lt (Nat.lt_of_lt_of_eq (Nat.lt_of_lt_of_le (blk_lt x21) (s685).size) hb692)
    have ne700 : b680 ≠ b690 := Nat.ne_of_lt (Nat.lt_of_lt_of_eq (blk_lt x684) hb692)
    have x684 := (k693.block _ (blk_lt x684)).trans x684
    refine W.sbr ?_ ?_
    ·have ho701 := own_empty (base := w.heap.size) (size := 4) x694 lo696
     replace ho701 : World.ownsRow _ _ _ _ _ _ (pipesV []) := ho701
     have nb702 : Nb b2 (.slice (some ⟨b690, 0, none⟩) 0 0) := nb_new ne697
     have nb703 : Nb b9 (.slice (some ⟨b690, 0, none⟩) 0 0) := nb_new ne698
     have nb704 : Nb b17 (.slice (some ⟨b690, 0, none⟩) 0 0) := nb_new ne699
     have nb705 : Nb b680 (.slice (some ⟨b690, 0, none⟩) 0 0) := nb_new ne700
     replace ho701 : World.ownsRow _ _ _ _ _ _ (pipesV []) := ho701
     refine W.sapR (e := 38) (size := 4) (base := w.heap.size) (v := .slice (some ⟨b690, 0, none⟩) 0 0) (A := A) (m := n) (c := c) s695 rfl rfl rfl rfl kk kk kk ho701 (Rk ha (Sb c34 s695 nkk)) hf (pipes_one _) (by omega) (by have := ((Sb c34 s695 nkk)).size; omega) (.inr (fun kq e => by have := (s685).size; have := hb692; have e' := Option.some.inj e; simp at e'; omega)) (fun A706 cap707 w708 ho709 hg710 hat711 s712 => ?_)
     apply F.nx
     have nb713 : Nb b2 (.slice A706 (0 + n) cap707) := nb_app2 nb702 (Nat.lt_of_lt_of_le (blk_lt x6) (s695).size) hat711
     have nb714 : Nb b9 (.slice A706 (0 + n) cap707) := nb_app2 nb703 (Nat.lt_of_lt_of_le (blk_lt x13) (s695).size) hat711
     have nb715 : Nb b17 (.slice A706 (0 + n) cap707) := nb_app2 nb704 (Nat.lt_of_lt_of_le (blk_lt x21) (s695).size) hat711
     have nb716 : Nb b680 (.slice A706 (0 + n) cap707) := nb_app2 nb705 (blk_lt x684) hat711
     have x684 := (hg710.block _ (blk_lt x684) nb705).trans x684
     have ho709 := own_joinP ho709
     have fr717 : ∀ kq, (.slice A706 (0 + n) cap707 : Value).ownBlock = some kq → wlj1.heap.size ≤ kq := fun kq e => by
       have hs := (s695).size
       rcases hat711 with h | h
       · exact (show ∀ kq, Value.ownBlock _ = some kq → wlj1.heap.size ≤ kq from (fun kq e => by have := (s685).size; have := hb692; have e' := Option.some.inj e; simp at e'; omega)) kq (h.symm.trans e)
       · have := Option.some.inj (h.symm.trans e); omega
     refine W.sn (fun b => .slice (some ⟨b, 0, none⟩) 1 1) #[.int .i64 x.id, .int .i64 x.fr, .int .i64 x.to, .int .i64 x.sz] 38 s712 rfl kk rfl (fun _ => by kernel_rfl) (fun b718 w719 hb720 k721 x722 s723 => ?_)
     apply F.nx
     have lo724 : w.heap.size ≤ b718 := Nl ((Sb c34 s712 nkk)).size (Nat.le_of_eq hb720)
     have nb729 : Nb b718 (.slice A706 (0 + n) cap707) := nb_hi ho709 (Nat.le_of_eq hb720)
     have x684 := (k721.block _ (blk_lt x684)).trans x684
     have ho730 := own_kept ho709 k721
     refine Fc [.slice A706 (0 + n) cap707, .int .i64 (k2 : Int), .slice (some ⟨b718, 0, none⟩) 1 1] (InsertP_any A706 (0 + n) cap707 k2 b718 w.heap.size ([] ++ ps) x _ ((Sb c34 s723 nkk)).size ho730 (by rcases hat711 with h | h <;> rw [h] <;> simp [Value.ownBlock]) x722 nb729 (by omega) (by omega)) ?_
     rintro e w734 ⟨A731, c732, rfl, ho736, g735, hat738⟩
     have s737 := SG.of_grown s723 g735 (.inr fr717)
     refine ⟨_, rfl, s737, ?_⟩
     apply F.nx
     have nb739 : Nb b2 (.slice A731 ((0 + n) + 1) c732) := nb_app3 (v := .slice A706 (0 + n) cap707) nb713 (Nat.lt_of_lt_of_le (blk_lt x6) (s723).size) hat738
     have nb740 : Nb b9 (.slice A731 ((0 + n) + 1) c732) := nb_app3 (v := .slice A706 (0 + n) cap707) nb714 (Nat.lt_of_lt_of_le (blk_lt x13) (s723).size) hat738
     have nb741 : Nb b17 (.slice A731 ((0 + n) + 1) c732) := nb_app3 (v := .slice A706 (0 + n) cap707) nb715 (Nat.lt_of_lt_of_le (blk_lt x21) (s723).size) hat738
     have nb742 : Nb b680 (.slice A731 ((0 + n) + 1) c732) := nb_app3 (v := .slice A706 (0 + n) cap707) nb716 (blk_lt x684) hat738
     have x684 := (g735.block _ (blk_lt x684) nb716).trans x684
     have fr744 : ∀ kq, (.slice A731 ((0 + n) + 1) c732 : Value).ownBlock = some kq → wlj1.heap.size ≤ kq := fun kq e => by
       have hs := (s723).size
       rcases (show (.slice A731 ((0 + n) + 1) c732 : Value).ownBlock = (.slice A706 (0 + n) cap707 : Value).ownBlock ∨ ∀ k9, (.slice A731 ((0 + n) + 1) c732 : Value).ownBlock = some k9 → w719.heap.size ≤ k9 from hat738) with h | h
       · exact (show ∀ kq, (.slice A706 (0 + n) cap707 : Value).ownBlock = some kq → wlj1.heap.size ≤ kq from fr717) kq (by rw [← h]; exact e)
       · have := h kq e; omega
     refine Fq (.agg #[.int .i64 m, .slice A731 ((0 + n) + 1) c732]) (r_build rfl (vs := [(0, .int .i64 m), (1, .slice A731 ((0 + n) + 1) c732)]) kk kk) ?_
     refine W.ss (v := .agg #[.int .i64 m, .slice A731 ((0 + n) + 1) c732]) (j := 0) (news := [.int .i64 m, .slice A731 ((0 + n) + 1) c732]) (cs' := #[.int .i64 m, .slice A731 ((0 + n) + 1) c732]) s737 rfl kk rfl rfl kk kk x684 kk kk (by simp) kk kk (.inr (Nl (s60).size (Nat.le_of_eq hb682))) (fun w745 g746 x747 s748 => ?_)
     have ho749 := own_grown ho736 g746 (fun j e1 e2 => by cases e2; exact nb742 e1.symm)
     apply F.es
     have x6 := Sk s748 x6 onn
     have x13 := Sk s748 x13 onn
     have x21 := Sk s748 x21 onn
     have c750 := (Sb c34 s748 nkk)
     exact h9 0 _ _ ⟨A731, ((0 + n) + 1), c732, b680, (fun iU9 => lk [(2, .pointer (some ⟨b2, 0, none⟩)), (3, .pointer (some ⟨b9, 0, none⟩)), (4, .pointer (some ⟨b17, 0, none⟩)), (5, .bool false), (6, .int .i64 (k2 : Int)), (7, .pointer (some ⟨b680, 0, none⟩)), (30, .pointer (some ⟨b2, 0, none⟩)), (31, .int .i64 m), (32, .slice (some ⟨b690, 0, none⟩) 0 0), (33, .pointer (some ⟨b2, 1, none⟩)), (34, .slice A n c), (35, .slice A706 (0 + n) cap707), (36, .int .i64 (k2 : Int)), (37, .agg #[.int .i64 x.id, .int .i64 x.fr, .int .i64 x.to, .int .i64 x.sz]), (38, .slice (some ⟨b718, 0, none⟩) 1 1), (39, .slice A731 ((0 + n) + 1) c732), (40, .agg #[.int .i64 m, .slice A731 ((0 + n) + 1) c732])] iU9 (Uj1 iU9)), kk, x6, x13, x21, x747, lo686, ho749, by omega, nb739, nb740, nb741, nb742, ne687, ne688, ne689, c750⟩
    refine W.sn (fun b => .slice (some ⟨b, 0, none⟩) 1 1) #[.int .i64 x.id, .int .i64 x.fr, .int .i64 x.to, .int .i64 x.sz] 38 s695 rfl kk rfl (fun _ => by kernel_rfl) (fun b751 w752 hb753 k754 x755 s756 => ?_)
    apply F.nx
    have lo757 : w.heap.size ≤ b751 := Nl ((Sb c34 s695 nkk)).size (Nat.le_of_eq hb753)
    have ne762 : b690 ≠ b751 := Nat.ne_of_lt (Nat.lt_of_lt_of_eq (blk_lt x694) hb753)
    have x684 := (k754.block _ (blk_lt x684)).trans x684
    have x694 := (k754.block _ (blk_lt x694)).trans x694
    have ho763 := own_empty (base := w.heap.size) (size := 4) x694 lo696
    replace ho763 : World.ownsRow _ _ _ _ _ _ (pipesV []) := ho763
    have nb764 : Nb b2 (.slice (some ⟨b690, 0, none⟩) 0 0) := nb_new ne697
    have nb765 : Nb b9 (.slice (some ⟨b690, 0, none⟩) 0 0) := nb_new ne698
    have nb766 : Nb b17 (.slice (some ⟨b690, 0, none⟩) 0 0) := nb_new ne699
    have nb767 : Nb b680 (.slice (some ⟨b690, 0, none⟩) 0 0) := nb_new ne700
    have nb768 : Nb b751 (.slice (some ⟨b690, 0, none⟩) 0 0) := nb_new (Ne.symm ne762)
    replace ho763 : World.ownsRow _ _ _ _ _ _ (pipesV []) := ho763
    refine W.sapR (e := 38) (size := 4) (base := w.heap.size) (v := .slice (some ⟨b690, 0, none⟩) 0 0) (A := A) (m := n) (c := c) s756 rfl rfl rfl rfl kk kk kk ho763 (Rk ha (Sb c34 s756 nkk)) hf (pipes_one _) (by omega) (by have := ((Sb c34 s756 nkk)).size; omega) (.inr (fun kq e => by have := (s685).size; have := hb692; have e' := Option.some.inj e; simp at e'; omega)) (fun A769 cap770 w771 ho772 hg773 hat774 s775 => ?_)
    apply F.nx
    have nb776 : Nb b2 (.slice A769 (0 + n) cap770) := nb_app2 nb764 (Nat.lt_of_lt_of_le (blk_lt x6) (s756).size) hat774
    have nb777 : Nb b9 (.slice A769 (0 + n) cap770) := nb_app2 nb765 (Nat.lt_of_lt_of_le (blk_lt x13) (s756).size) hat774
    have nb778 : Nb b17 (.slice A769 (0 + n) cap770) := nb_app2 nb766 (Nat.lt_of_lt_of_le (blk_lt x21) (s756).size) hat774
    have nb779 : Nb b680 (.slice A769 (0 + n) cap770) := nb_app2 nb767 (blk_lt x684) hat774
    have x684 := (hg773.block _ (blk_lt x684) nb767).trans x684
    have nb780 : Nb b751 (.slice A769 (0 + n) cap770) := nb_app2 nb768 (blk_lt x755) hat774
    have x755 := (hg773.block _ (blk_lt x755) nb768).trans x755
    have ho772 := own_joinP ho772
    have fr781 : ∀ kq, (.slice A769 (0 + n) cap770 : Value).ownBlock = some kq → wlj1.heap.size ≤ kq := fun kq e => by
      have hs := (s756).size
      rcases hat774 with h | h
      · exact (show ∀ kq, Value.ownBlock _ = some kq → wlj1.heap.size ≤ kq from (fun kq e => by have := (s685).size; have := hb692; have e' := Option.some.inj e; simp at e'; omega)) kq (h.symm.trans e)
      · have := Option.some.inj (h.symm.trans e); omega
    refine Fc [.slice A769 (0 + n) cap770, .int .i64 (k2 : Int), .slice (some ⟨b751, 0, none⟩) 1 1] (InsertP_any A769 (0 + n) cap770 k2 b751 w.heap.size ([] ++ ps) x _ ((Sb c34 s775 nkk)).size ho772 (by rcases hat774 with h | h <;> rw [h] <;> simp [Value.ownBlock]) x755 nb780 (by omega) (by omega)) ?_
    rintro e w785 ⟨A782, c783, rfl, ho787, g786, hat789⟩
    have s788 := SG.of_grown s775 g786 (.inr fr781)
    refine ⟨_, rfl, s788, ?_⟩
    apply F.nx
    have nb790 : Nb b2 (.slice A782 ((0 + n) + 1) c783) := nb_app3 (v := .slice A769 (0 + n) cap770) nb776 (Nat.lt_of_lt_of_le (blk_lt x6) (s775).size) hat789
    have nb791 : Nb b9 (.slice A782 ((0 + n) + 1) c783) := nb_app3 (v := .slice A769 (0 + n) cap770) nb777 (Nat.lt_of_lt_of_le (blk_lt x13) (s775).size) hat789
    have nb792 : Nb b17 (.slice A782 ((0 + n) + 1) c783) := nb_app3 (v := .slice A769 (0 + n) cap770) nb778 (Nat.lt_of_lt_of_le (blk_lt x21) (s775).size) hat789
    have nb793 : Nb b680 (.slice A782 ((0 + n) + 1) c783) := nb_app3 (v := .slice A769 (0 + n) cap770) nb779 (blk_lt x684) hat789
    have x684 := (g786.block _ (blk_lt x684) nb779).trans x684
    have fr795 : ∀ kq, (.slice A782 ((0 + n) + 1) c783 : Value).ownBlock = some kq → wlj1.heap.size ≤ kq := fun kq e => by
      have hs := (s775).size
      rcases (show (.slice A782 ((0 + n) + 1) c783 : Value).ownBlock = (.slice A769 (0 + n) cap770 : Value).ownBlock ∨ ∀ k9, (.slice A782 ((0 + n) + 1) c783 : Value).ownBlock = some k9 → w771.heap.size ≤ k9 from hat789) with h | h
      · exact (show ∀ kq, (.slice A769 (0 + n) cap770 : Value).ownBlock = some kq → wlj1.heap.size ≤ kq from fr781) kq (by rw [← h]; exact e)
      · have := h kq e; omega
    refine Fq (.agg #[.int .i64 m, .slice A782 ((0 + n) + 1) c783]) (r_build rfl (vs := [(0, .int .i64 m), (1, .slice A782 ((0 + n) + 1) c783)]) kk kk) ?_
    refine W.ss (v := .agg #[.int .i64 m, .slice A782 ((0 + n) + 1) c783]) (j := 0) (news := [.int .i64 m, .slice A782 ((0 + n) + 1) c783]) (cs' := #[.int .i64 m, .slice A782 ((0 + n) + 1) c783]) s788 rfl kk rfl rfl kk kk x684 kk kk (by simp) kk kk (.inr (Nl (s60).size (Nat.le_of_eq hb682))) (fun w796 g797 x798 s799 => ?_)
    have ho800 := own_grown ho787 g797 (fun j e1 e2 => by cases e2; exact nb793 e1.symm)
    apply F.es
    have x6 := Sk s799 x6 onn
    have x13 := Sk s799 x13 onn
    have x21 := Sk s799 x21 onn
    have c801 := (Sb c34 s799 nkk)
    exact h9 0 _ _ ⟨A782, ((0 + n) + 1), c783, b680, (fun iU9 => lk [(2, .pointer (some ⟨b2, 0, none⟩)), (3, .pointer (some ⟨b9, 0, none⟩)), (4, .pointer (some ⟨b17, 0, none⟩)), (5, .bool false), (6, .int .i64 (k2 : Int)), (7, .pointer (some ⟨b680, 0, none⟩)), (30, .pointer (some ⟨b2, 0, none⟩)), (31, .int .i64 m), (32, .slice (some ⟨b690, 0, none⟩) 0 0), (33, .pointer (some ⟨b2, 1, none⟩)), (34, .slice A n c), (35, .slice A769 (0 + n) cap770), (36, .int .i64 (k2 : Int)), (37, .agg #[.int .i64 x.id, .int .i64 x.fr, .int .i64 x.to, .int .i64 x.sz]), (38, .slice (some ⟨b751, 0, none⟩) 1 1), (39, .slice A782 ((0 + n) + 1) c783), (40, .agg #[.int .i64 m, .slice A782 ((0 + n) + 1) c783])] iU9 (Uj1 iU9)), kk, x6, x13, x21, x798, lo686, ho800, by omega, nb790, nb791, nb792, nb793, ne687, ne688, ne689, c801⟩
   refine W.sn (fun b => .slice (some ⟨b, 0, none⟩) 1 1) #[.int .i64 x.id, .int .i64 x.fr, .int .i64 x.to, .int .i64 x.sz] 38 s685 rfl kk rfl (fun _ => by kernel_rfl) (fun b802 w803 hb804 k805 x806 s807 => ?_)
   apply F.nx
   have lo808 : w.heap.size ≤ b802 := Nl ((Sb c34 s685 nkk)).size (Nat.le_of_eq hb804)
   have x684 := (k805.block _ (blk_lt x684)).trans x684
   refine W.sn (fun b => .slice (some ⟨b, 0, none⟩) 0 0) #[] 38 s807 rfl kk rfl (fun _ => by kernel_rfl) (fun b813 w814 hb815 k816 x817 s818 => ?_)
   apply F.nx
   have lo819 : w.heap.size ≤ b813 := Nl ((Sb c34 s807 nkk)).size (Nat.le_of_eq hb815)
   have ne820 : b2 ≠ b813 := Nat.ne_of_lt (Nat.lt_of_lt_of_eq (Nat.lt_of_lt_of_le (blk_lt x6) (s807).size) hb815)
   have ne821 : b9 ≠ b813 := Nat.ne_of_lt (Nat.lt_of_lt_of_eq (Nat.lt_of_lt_of_le (blk_lt x13) (s807).size) hb815)
   have ne822 : b17 ≠ b813 := Nat.ne_of_lt (Nat.lt_of_lt_of_eq (Nat.lt_of_lt_of_le (blk_lt x21) (s807).size) hb815)
   have ne823 : b680 ≠ b813 := Nat.ne_of_lt (Nat.lt_of_lt_of_eq (blk_lt x684) hb815)
   have ne824 : b802 ≠ b813 := Nat.ne_of_lt (Nat.lt_of_lt_of_eq (blk_lt x806) hb815)
   have x684 := (k816.block _ (blk_lt x684)).trans x684
   have x806 := (k816.block _ (blk_lt x806)).trans x806
   have ho825 := own_empty (base := w.heap.size) (size := 4) x817 lo819
   replace ho825 : World.ownsRow _ _ _ _ _ _ (pipesV []) := ho825
   have nb826 : Nb b2 (.slice (some ⟨b813, 0, none⟩) 0 0) := nb_new ne820
   have nb827 : Nb b9 (.slice (some ⟨b813, 0, none⟩) 0 0) := nb_new ne821
   have nb828 : Nb b17 (.slice (some ⟨b813, 0, none⟩) 0 0) := nb_new ne822
   have nb829 : Nb b680 (.slice (some ⟨b813, 0, none⟩) 0 0) := nb_new ne823
   have nb830 : Nb b802 (.slice (some ⟨b813, 0, none⟩) 0 0) := nb_new ne824
   replace ho825 : World.ownsRow _ _ _ _ _ _ (pipesV []) := ho825
   refine W.sapR (e := 38) (size := 4) (base := w.heap.size) (v := .slice (some ⟨b813, 0, none⟩) 0 0) (A := A) (m := n) (c := c) s818 rfl rfl rfl rfl kk kk kk ho825 (Rk ha (Sb c34 s818 nkk)) hf (pipes_one _) (by omega) (by have := ((Sb c34 s818 nkk)).size; omega) (.inr (fun kq e => by have := (s807).size; have := hb815; have e' := Option.some.inj e; simp at e'; omega)) (fun A831 cap832 w833 ho834 hg835 hat836 s837 => ?_)
   apply F.nx
   have nb838 : Nb b2 (.slice A831 (0 + n) cap832) := nb_app2 nb826 (Nat.lt_of_lt_of_le (blk_lt x6) (s818).size) hat836
   have nb839 : Nb b9 (.slice A831 (0 + n) cap832) := nb_app2 nb827 (Nat.lt_of_lt_of_le (blk_lt x13) (s818).size) hat836
   have nb840 : Nb b17 (.slice A831 (0 + n) cap832) := nb_app2 nb828 (Nat.lt_of_lt_of_le (blk_lt x21) (s818).size) hat836
   have nb841 : Nb b680 (.slice A831 (0 + n) cap832) := nb_app2 nb829 (blk_lt x684) hat836
   have x684 := (hg835.block _ (blk_lt x684) nb829).trans x684
   have nb842 : Nb b802 (.slice A831 (0 + n) cap832) := nb_app2 nb830 (blk_lt x806) hat836
   have x806 := (hg835.block _ (blk_lt x806) nb830).trans x806
   have ho834 := own_joinP ho834
   have fr843 : ∀ kq, (.slice A831 (0 + n) cap832 : Value).ownBlock = some kq → wlj1.heap.size ≤ kq := fun kq e => by
     have hs := (s818).size
     rcases hat836 with h | h
     · exact (show ∀ kq, Value.ownBlock _ = some kq → wlj1.heap.size ≤ kq from (fun kq e => by have := (s807).size; have := hb815; have e' := Option.some.inj e; simp at e'; omega)) kq (h.symm.trans e)
     · have := Option.some.inj (h.symm.trans e); omega
   refine Fc [.slice A831 (0 + n) cap832, .int .i64 (k2 : Int), .slice (some ⟨b802, 0, none⟩) 1 1] (InsertP_any A831 (0 + n) cap832 k2 b802 w.heap.size ([] ++ ps) x _ ((Sb c34 s837 nkk)).size ho834 (by rcases hat836 with h | h <;> rw [h] <;> simp [Value.ownBlock]) x806 nb842 (by omega) (by omega)) ?_
   rintro e w847 ⟨A844, c845, rfl, ho849, g848, hat851⟩
   have s850 := SG.of_grown s837 g848 (.inr fr843)
   refine ⟨_, rfl, s850, ?_⟩
   apply F.nx
   have nb852 : Nb b2 (.slice A844 ((0 + n) + 1) c845) := nb_app3 (v := .slice A831 (0 + n) cap832) nb838 (Nat.lt_of_lt_of_le (blk_lt x6) (s837).size) hat851
   have nb853 : Nb b9 (.slice A844 ((0 + n) + 1) c845) := nb_app3 (v := .slice A831 (0 + n) cap832) nb839 (Nat.lt_of_lt_of_le (blk_lt x13) (s837).size) hat851
   have nb854 : Nb b17 (.slice A844 ((0 + n) + 1) c845) := nb_app3 (v := .slice A831 (0 + n) cap832) nb840 (Nat.lt_of_lt_of_le (blk_lt x21) (s837).size) hat851
   have nb855 : Nb b680 (.slice A844 ((0 + n) + 1) c845) := nb_app3 (v := .slice A831 (0 + n) cap832) nb841 (blk_lt x684) hat851
   have x684 := (g848.block _ (blk_lt x684) nb841).trans x684
   have fr857 : ∀ kq, (.slice A844 ((0 + n) + 1) c845 : Value).ownBlock = some kq → wlj1.heap.size ≤ kq := fun kq e => by
     have hs := (s837).size
     rcases (show (.slice A844 ((0 + n) + 1) c845 : Value).ownBlock = (.slice A831 (0 + n) cap832 : Value).ownBlock ∨ ∀ k9, (.slice A844 ((0 + n) + 1) c845 : Value).ownBlock = some k9 → w833.heap.size ≤ k9 from hat851) with h | h
     · exact (show ∀ kq, (.slice A831 (0 + n) cap832 : Value).ownBlock = some kq → wlj1.heap.size ≤ kq from fr843) kq (by rw [← h]; exact e)
     · have := h kq e; omega
   refine Fq (.agg #[.int .i64 m, .slice A844 ((0 + n) + 1) c845]) (r_build rfl (vs := [(0, .int .i64 m), (1, .slice A844 ((0 + n) + 1) c845)]) kk kk) ?_
   refine W.ss (v := .agg #[.int .i64 m, .slice A844 ((0 + n) + 1) c845]) (j := 0) (news := [.int .i64 m, .slice A844 ((0 + n) + 1) c845]) (cs' := #[.int .i64 m, .slice A844 ((0 + n) + 1) c845]) s850 rfl kk rfl rfl kk kk x684 kk kk (by simp) kk kk (.inr (Nl (s60).size (Nat.le_of_eq hb682))) (fun w858 g859 x860 s861 => ?_)
   have ho862 := own_grown ho849 g859 (fun j e1 e2 => by cases e2; exact nb855 e1.symm)
   apply F.es
   have x6 := Sk s861 x6 onn
   have x13 := Sk s861 x13 onn
   have x21 := Sk s861 x21 onn
   have c863 := (Sb c34 s861 nkk)
   exact h9 0 _ _ ⟨A844, ((0 + n) + 1), c845, b680, (fun iU9 => lk [(2, .pointer (some ⟨b2, 0, none⟩)), (3, .pointer (some ⟨b9, 0, none⟩)), (4, .pointer (some ⟨b17, 0, none⟩)), (5, .bool false), (6, .int .i64 (k2 : Int)), (7, .pointer (some ⟨b680, 0, none⟩)), (30, .pointer (some ⟨b2, 0, none⟩)), (31, .int .i64 m), (32, .slice (some ⟨b813, 0, none⟩) 0 0), (33, .pointer (some ⟨b2, 1, none⟩)), (34, .slice A n c), (35, .slice A831 (0 + n) cap832), (36, .int .i64 (k2 : Int)), (37, .agg #[.int .i64 x.id, .int .i64 x.fr, .int .i64 x.to, .int .i64 x.sz]), (38, .slice (some ⟨b802, 0, none⟩) 1 1), (39, .slice A844 ((0 + n) + 1) c845), (40, .agg #[.int .i64 m, .slice A844 ((0 + n) + 1) c845])] iU9 (Uj1 iU9)), kk, x6, x13, x21, x860, lo686, ho862, by omega, nb852, nb853, nb854, nb855, ne687, ne688, ne689, c863⟩
  intro K10 h10
  refine wp_block ?_
  refine loopK (fun am0 aa0 wl0 => ∃ (k : Nat) , Kn aa0 [(2, .pointer (some ⟨b2, 0, none⟩)), (3, .pointer (some ⟨b9, 0, none⟩)), (4, .pointer (some ⟨b17, 0, none⟩)), (5, .bool false), (6, .int .i64 (k : Int))] 46 ∧ (am0 = n - k) ∧ (k ≤ n) ∧ (∀ j z, j < k → ps[j]? = some z → z.id < x.id) ∧ (wl0.heap[b2]? = some (.cells #[.int .i64 m, .slice A n c] 24 (0, 0))) ∧ (wl0.heap[b9]? = some (.cells #[.int .i64 x.id, .int .i64 x.fr, .int .i64 x.to, .int .i64 x.sz] 38 (0, 0))) ∧ (wl0.heap[b17]? = some (.cells #[.int .i64 0, .slice none 0 0] 24 (0, 0))) ∧ (Below w.heap.size w wl0)) (n - 0) ?_ ?_
  ·exact ⟨0, Kn.of, rfl, (Nat.zero_le _), (fun j z hj => absurd hj (by omega)), x6, x13, x21, c33⟩
  rintro am0 aa0 wl0 K11 h11 ⟨k, ⟨U0, rfl⟩, rfl, hk, hpre, x6, x13, x21, c864⟩
  refine wk fun K12 h12 => ?_
  refine wk fun K13 h13 => ?_
  refine W.region_sch (row := none) (Sch.of [(0, false), (1, false), (2, false), (3, false), (4, false), (5, false), (6, false), (7, false), (8, false), (9, false), (10, false), (11, false), (12, false), (13, false), (14, false), (15, false)]) kk kk (fun _ d _ _ _ h => by cases d <;> exact h) kk (fun w865 e866 s867 => ?_)
  refine Fv (.int .i64 (k : Int)) ?_
  refine Fq (.pointer (some ⟨b2, 1, none⟩)) (r_field (k := 1) rfl ek kk) ?_
  refine Fl (.slice A n c) (sgS (blk_cell (j := 1) x6 kk) onn) ?_
  refine Fq (.int .i64 (n : Int)) (r_len (A := A) (n := n) (c := c) rfl ek kk) ?_
  by_cases q868 : ((k : Int) : Int) < ((n : Int) : Int)
  ·refine Fq (.bool true) (r_lss (m := (k : Int)) (n := (n : Int)) rfl ek ek (dt q868)) ?_
   refine Fv (.bool true) ?_
   refine Fq (.pointer (some ⟨b2, 1, none⟩)) (r_field (k := 1) rfl ek kk) ?_
   refine Fl (.slice A n c) (sgS (blk_cell (j := 1) x6 kk) onn) ?_
   refine Fv (.int .i64 (k : Int)) ?_
   obtain ⟨x869, hx870⟩ := get_of (zs := ps) (k := k) (by have := hl; omega)
   obtain ⟨b871, o872, hA873, hb874, hc875, hc876, hc877, hc878⟩ := Rd.elPipe ha hx870
   refine Fq (.pointer (some ⟨b871, o872 + k * 4, none⟩)) (r_idx (n := n) (c := c) (k := k) rfl ek hA873 kk kk (by have := hl; omega)) ?_
   refine Fq (.pointer (some ⟨b871, o872 + k * 4, none⟩)) (r_field0 rfl ek kk) ?_
   refine Fl (.int .i64 x869.id) (sgS (later c864 hc875) (by simp)) ?_
   refine Fq (.pointer (some ⟨b9, 0, none⟩)) (r_field0 rfl ek kk) ?_
   refine Fl (.int .i64 x.id) (sgS (blk_cell (j := 0) x13 kk) onn) ?_
   by_cases q879 : (x869.id : Int) < (x.id : Int)
   ·refine Fq (.bool true) (r_lss (m := x869.id) (n := x.id) rfl ek ek (dt q879)) ?_
    refine Fq (.bool true) (r_pick (b := true) rfl ek ek) ?_
    apply F.es
    have x6 := Sk s867 x6 onn
    have x13 := Sk s867 x13 onn
    have x21 := Sk s867 x21 onn
    have c880 := (Sb c864 s867 nkk)
    apply h13
    as_aux_lemma =>
     refine wp_cond_true ek ?_
     apply wp_skip
     apply h12
     refine wp_block ?_
     refine Rq 3 ?_
     refine Fv (.int .i64 (k : Int)) ?_
     refine Fq (.int .i64 ((k + 1 : Nat) : Int)) (r_add (m := (k : Int)) (n := 1) (z := ((k + 1 : Nat) : Int)) rfl ek ek (by omega) (by omega)) ?_
     refine Fa (.int .i64 ((k + 1 : Nat) : Int)) ?_
     apply F.es
     exact h11 _ _ _ (by omega : (n - (k + 1)) < _) ⟨k + 1, Kn.of, rfl, (by omega), (upto_succ (Q := fun z => z.id < x.id) hpre hx870 (by omega)), x6, x13, x21, c880⟩
   refine Fq (.bool false) (r_lss (m := x869.id) (n := x.id) rfl ek ek (df q879)) ?_
   refine Fq (.bool false) (r_pick (b := true) rfl ek ek) ?_
   apply F.es
   have x6 := Sk s867 x6 onn
   have x13 := Sk s867 x13 onn
   have x21 := Sk s867 x21 onn
   have c881 := (Sb c864 s867 nkk)
   apply h13
   refine wp_cond_false ek ?_
   refine wp_exit ?_
   have hkk9 : insAtP ps x.id = k := insAtP_at hpre (by omega) (fun z9 hz9 => by rw [hx870] at hz9; cases hz9; omega)
   exact h10 _ _ _ ⟨k, Kn.of, rfl, (by omega), hkk9, x6, x13, x21, c881⟩
  refine Fq (.bool false) (r_lss (m := (k : Int)) (n := (n : Int)) rfl ek ek (df q868)) ?_
  refine Fv (.bool false) ?_
  refine Fs s867 ?_
  refine Fs s867 ?_
  refine Fs s867 ?_
  refine Fs s867 ?_
  refine Fs s867 ?_
  refine Fs s867 ?_
  refine Fs s867 ?_
  refine Fs s867 ?_
  refine Fs s867 ?_
  refine Fq (.bool false) (r_pick (b := false) rfl ek ek) ?_
  apply F.es
  have x6 := Sk s867 x6 onn
  have x13 := Sk s867 x13 onn
  have x21 := Sk s867 x21 onn
  have c882 := (Sb c864 s867 nkk)
  apply h13
  refine wp_cond_false ek ?_
  refine wp_exit ?_
  have hkk9 : insAtP ps x.id = k := insAtP_at hpre (by omega) (fun z9 hz9 => by have h8 := (List.getElem?_eq_some_iff.1 hz9).1; omega)
  exact h10 _ _ _ ⟨k, Kn.of, rfl, (by omega), hkk9, x6, x13, x21, c882⟩
 rw [q31]
 refine Fq (.bool true) (r_not (b := false) rfl ek rfl) ?_
 apply F.es
 have x21 := Sk s30 x21 onn
 have c883 := (Sb c26 s30 nkk)
 apply h3
 refine wp_cond_true ek ?_
 refine wk fun K14 h14 => ?_
 refine W.region_plain (row := (some b17)) [(0, false), (1, true), (2, false)] kk ?_
 have s884 := SG.self w29 (some b17)
 refine Fq (.agg #[.int .i64 0, .slice none 0 0]) (r_build rfl (vs := []) kk kk) ?_
 refine W.ss (v := .agg #[.int .i64 0, .slice none 0 0]) (j := 0) (news := [.int .i64 0, .slice none 0 0]) (cs' := #[.int .i64 0, .slice none 0 0]) s884 rfl kk rfl rfl kk kk x21 kk kk (by simp) kk kk (.inl rfl) (fun w885 g886 x887 s888 => ?_)
 refine Fa (.bool false) ?_
 apply F.es
 have c889 := (Sb c883 s888 (fun kq e => by cases e; exact lo23))
 apply h14
 as_aux_lemma =>
  refine wp_ret ?_
  try simp only [Exit.then]
  refine retCT (x := .bool false) rfl kk kk kk kk x887 ?_
  exact fin_net (zs := []) (World.ownsRow_nil _ _ _ _) (add_no q31).2.2.symm (add_no q31).2.1.symm (add_no q31).1.symm c889
end Go.Proofs.YtdlcldaogcbnlaaDoor
namespace Go.Proofs.YtdlcldaogcbnlaaDoor
open Go.RowKit Go.ChangeShapes Go.WideShapes Go.Deep Go.Joins
set_option linter.unusedVariables false
section
variable {H : Type} {enc : TypeId × Value → H} {P : Program} {w : World} {base : Nat} {spare : Nat → Bool} {held : Bool}
theorem addr_form {a : Addr} {u : Value} (h : w.cell? (a.add 0) = some u) : ∃ b off, a = ⟨b, off, none⟩ ∧ b < w.heap.size := by
  obtain ⟨b, off, spot⟩ := a
  have e : (⟨b, off, spot⟩ : Addr).add 0 = ⟨b, off, spot⟩ := by simp [Addr.add]
  rw [e] at h
  have hs : spot = none := World.cell?_spot h
  subst hs
  exact ⟨b, off, rfl, World.block_lt_of_cell? w _ h⟩
theorem add_form (b off j : Nat) : (⟨b, off, none⟩ : Addr).add j = ⟨b, off + j, none⟩ := by
  unfold Addr.add
  by_cases h : j = 0
  · subst h; simp
  · simp [h]
theorem open_nums {t e : TypeId} {k : IntKind} {A : Option Addr} {len cap : Nat} {d : DataW H} {p : List MemPlace} (ht : P.underlying t = some (.slice e)) (he : P.underlying e = some (.int k)) (hc : P.cellsOf e = 1)
    (h : DataW.Trod enc P w base spare held t (.slice A len cap) d p) :
    ∃ zs : List Int, zs.length = len ∧ Rd w 1 A len (zs.map (Value.int k)) ∧ len ≤ maxLen ∧ ∀ n ∈ zs, (Lit.int k n).wf = true := by
  obtain ⟨fuel, hf⟩ := h
  rcases open_ints ht he hc hf with ⟨hcs, _⟩ | ⟨x, l, c, zs, hcs, _, hl, hm, hz, _, hcell, hwz⟩
  · simp [Value.cells] at hcs
    obtain ⟨rfl, rfl, rfl⟩ := hcs
    exact ⟨[], rfl, Rd.nil, Nat.zero_le _, fun n hn => by cases hn⟩
  · simp [Value.cells] at hcs
    obtain ⟨rfl, rfl, rfl⟩ := hcs
    have hle : len ≤ zs.length := by rw [hz]; split <;> omega
    refine ⟨zs.take len, by simp; omega, ⟨by simp; omega, fun hn => ?_⟩, by omega, fun n hn => hwz n (List.mem_of_mem_take hn)⟩
    obtain ⟨b, off, rfl, hb⟩ := addr_form (hcell 0 (by omega))
    refine ⟨b, off, rfl, hb, fun j u hu => ?_⟩
    rw [List.getElem?_map, List.getElem?_take] at hu
    split at hu
    · rename_i hj
      have := hcell j (by omega)
      rw [add_form] at this
      rw [this]
      rw [List.getElem?_eq_getElem (by omega)] at hu
      simp at hu
      rw [← hu, List.getD_eq_getElem?_getD, List.getElem?_eq_getElem (by omega)]; rfl
    · simp at hu
end
end Go.Proofs.YtdlcldaogcbnlaaDoor
namespace Go.Proofs.YtdlcldaogcbnlaaDoor
open Go.RowKit Go.ChangeShapes Go.WideShapes Go.Deep Go.Joins
set_option linter.unusedVariables false
end Go.Proofs.YtdlcldaogcbnlaaDoor
namespace Go.Proofs.YtdlcldaogcbnlaaDoor
open Go.RowKit
set_option linter.unusedVariables false
set_option linter.unusedSimpArgs false
theorem NT_impl (m : Int) (A : Option Addr) (n c : Nat) (ps : List Pp) (w : World) (ha : Rd w 4 A n (pipesV ps)) (hn : n ≤ 1048576) (htab : Lib.TabIs Tryd.prog w "internal/strconv.uint64pow10" .u64 Lib.pow10Tab) :
    Calls Tryd.prog 13 #[.agg #[.int .i64 m, .slice A n c]] w fun e w' => e = .returned (.tuple #[.string (NetworkText_v0 m ps), .bool (goodN m ps)]) ∧ Below w.heap.size w w' :=
  NetworkText_impl m A n c ps w ha hn htab
theorem NT_spec (m : Int) (A : Option Addr) (n c : Nat) (ps : List Pp) (w : World) (ha : Rd w 4 A n (pipesV ps)) (hn : n ≤ 1048576) :
    Calls Tryd.prog 14 #[.agg #[.int .i64 m, .slice A n c]] w fun e w' => e = .returned (.tuple #[.string (NetworkText_v0 m ps), .bool (goodN m ps)]) ∧ Below w.heap.size w w' :=
  NetworkText_spec m A n c ps w ha hn
theorem vNetwork_eq (m m2 : Int) (A B : Option Addr) (n n2 c d : Nat) (ps qs : List Pp) (w : World) (hm : m2 = m) (hq : qs = ps) (ha : Rd w 4 A n2 (pipesV qs)) (hb : Rd w 4 B n (pipesV ps)) (hn : n ≤ 9223372036854775807) :
    Calls Tryd.prog 16 #[.agg #[.int .i64 m2, .slice A n2 c], .agg #[.int .i64 m, .slice B n d]] w fun e w' => e = .returned (.bool true) ∧ Below w.heap.size w w' := by
  subst hm hq
  obtain rfl : n2 = n := by have := rd_pipes_len ha; have := rd_pipes_len hb; omega
  exact vNetwork_same m2 A B n2 c d qs w ha hb hn
set_option maxRecDepth 100000 in
set_option maxHeartbeats 8000000 in
theorem wi_FnNetworks (A : Option Addr) (n c : Nat) (zs : List Int) (w : World) (hcode : Rd w 1 A n (bytesV zs)) (hz : ∀ z ∈ zs, 0 ≤ z ∧ z < 256) (hn : n ≤ 9223372036854775807) (htab : Lib.TabIs Tryd.prog w "internal/strconv.uint64pow10" .u64 Lib.pow10Tab) (hmax : MaxIs w) :
    Calls Tryd.prog 4 #[.slice A n c] w fun e w' => e = .returned (.bool true) ∧ Below w.heap.size w w' := by
 have hl := rd_bytes_len hcode
 go_enter Tryd.func4, Tryd.ntmps4
 refine F.begin 202 [(0, .slice A n c)] (fun U0 => ?_)
 refine wk fun K1 h1 => ?_
 refine Rq 1 ?_
 refine Fa (.bool false) ?_
 apply F.es
 apply h1
 refine wk fun K2 h2 => ?_
 refine wk fun K3 h3 => ?_
 refine W.region_plain (row := none) [(0, false), (1, true)] kk ?_
 have s1 := SG.self w none
 refine Fv (.slice A n c) ?_
 refine Fc [.slice A n c] (vBig_any A n c zs _ (Rk hcode (Sb (Below.refl _ _) s1 nkk)) hz hn) ?_
 rintro e w3 ⟨rfl, b2⟩
 have s4 := SG.of_below s1 b2
 refine ⟨_, rfl, s4, ?_⟩
 apply F.nx
 rcases Bool.eq_false_or_eq_true (decide (65536 < n)) with q5 | q5
 ·rw [q5]
  apply F.es
  have c6 := (Sb (Below.refl _ _) s4 nkk)
  apply h3
  refine wp_cond_true ek ?_
  refine wk fun K4 h4 => ?_
  refine Rq 1 ?_
  refine Fa (.bool true) ?_
  apply F.es
  apply h4
  refine wp_ret ?_
  try simp only [Exit.then]
  refine ret1 (v := .bool true) rfl kk ?_
  exact ⟨rfl, c6⟩
 rw [q5]
 apply F.es
 have c7 := (Sb (Below.refl _ _) s4 nkk)
 apply h3
 refine wp_cond_false ek ?_
 apply wp_skip
 apply h2
 refine wk fun K5 h5 => ?_
 refine W.region_plain (row := none) [(0, false), (1, true), (2, true), (3, true)] kk ?_
 have s8 := SG.self w3 none
 refine Fv (.slice A n c) ?_
 refine Fc [.slice A n c] (DrawNetworkText_any A n c zs _ (Rk hcode (Sb c7 s8 nkk)) hz (by have h9 := of_decide_eq_false q5; omega)) ?_
 rintro e w21 ⟨m9, A10, n11, c12, ps13, rfl, ho14, hsm15, b20⟩
 have s22 := SG.of_below s8 b20
 refine ⟨_, rfl, s22, ?_⟩
 apply F.nx
 have rd16 := own_rd ho14
 have hl18 := rd_pipes_len rd16
 have hsm15n := hsm15.2.1
 refine W.sn (fun b => .pointer (some ⟨b, 0, none⟩)) #[.int .i64 0, .slice none 0 0] 24 s22 rfl kk rfl (fun _ => by kernel_rfl) (fun b23 w24 hb25 k26 x27 s28 => ?_)
 apply F.nx
 have lo29 : w.heap.size ≤ b23 := Nl ((Sb c7 s22 nkk)).size (Nat.le_of_eq hb25)
 have sp30 : Sp A10 n11 (some b23) := sp_new rd16 (by have := hb25; omega)
 have rd31 := Rk rd16 k26
 refine W.ss (v := .agg #[.int .i64 m9, .slice A10 n11 c12]) (j := 0) (news := [.int .i64 m9, .slice A10 n11 c12]) (cs' := #[.int .i64 m9, .slice A10 n11 c12]) s28 rfl kk rfl rfl kk kk x27 kk kk (by simp) kk kk (.inr (Nl (s22).size (Nat.le_of_eq hb25))) (fun w32 g33 x34 s35 => ?_)
 have rd36 := rd_sepG rd31 g33 sp30
 apply F.es
 have c37 := (Sb c7 s35 nkk)
 apply h5
 as_aux_lemma =>
  refine wk fun K6 h6 => ?_
  refine W.region_plain (row := none) [(0, false), (1, true), (2, false), (3, false), (4, false), (5, false), (6, false)] kk ?_
  have s38 := SG.self w32 none
  refine Fq (.agg #[.int .i64 m9, .slice A10 n11 c12]) (r_load2 rfl ek kk kk (sgS (blk_cell (j := 0) x34 kk) onn) (sgS (blk_cell (j := 1) x34 kk) onn)) ?_
  refine Fc [.agg #[.int .i64 m9, .slice A10 n11 c12]] (NT_impl m9 A10 n11 c12 ps13 _ (Rk rd36 (SG.below s38)) (by omega) (tab_kept htab (Sb c37 s38 nkk))) ?_
  rintro e w40 ⟨rfl, b39⟩
  have s41 := SG.of_below s38 b39
  refine ⟨_, rfl, s41, ?_⟩
  apply F.nx
  refine Fv (.tuple #[.string (NetworkText_v0 m9 ps13), .bool (goodN m9 ps13)]) ?_
  refine Fq (.string (NetworkText_v0 m9 ps13)) (r_extract (vs := #[.string (NetworkText_v0 m9 ps13), .bool (goodN m9 ps13)]) rfl ek kk) ?_
  refine Fq (.bool (goodN m9 ps13)) (r_extract (vs := #[.string (NetworkText_v0 m9 ps13), .bool (goodN m9 ps13)]) rfl ek kk) ?_
  refine Fa (.string (NetworkText_v0 m9 ps13)) ?_
  refine Fa (.bool (goodN m9 ps13)) ?_
  apply F.es
  have x34 := Sk s41 x34 onn
  have c42 := (Sb c37 s41 nkk)
  have rd43 := Rk rd36 (SG.below s41)
  apply h6
  refine wk fun K7 h7 => ?_
  refine W.region_plain (row := none) [(0, false), (1, true), (2, false), (3, false), (4, false), (5, true), (6, true), (7, false)] kk ?_
  have s44 := SG.self w40 none
  refine Fv (.string (NetworkText_v0 m9 ps13)) ?_
  refine Fc [.string (NetworkText_v0 m9 ps13)] (ParseNetwork_impl (NetworkText_v0 m9 ps13) _ (Nl (nt_size _ _) (by omega)) (tab_kept htab (Sb c42 s44 nkk)) (max_kept hmax (Sb c42 s44 nkk))) ?_
  rintro e w53 ⟨A45, d46, rfl, r47, b52⟩
  have s54 := SG.of_below s44 b52
  refine ⟨_, rfl, s54, ?_⟩
  apply F.nx
  have rd48 := own_rd r47
  have hl50 : (ParseNetwork_v0 (NetworkText_v0 m9 ps13)).length = (ParseNetwork_v0 (NetworkText_v0 m9 ps13)).length := rfl
  have hb55 := pn_len (NetworkText_v0 m9 ps13)
  refine Fv (.tuple #[.agg #[.int .i64 (ParseNetwork_v0m (NetworkText_v0 m9 ps13)), .slice A45 ((ParseNetwork_v0 (NetworkText_v0 m9 ps13)).length) d46], .bool (ParseNetwork_v1 (NetworkText_v0 m9 ps13))]) ?_
  refine Fq (.agg #[.int .i64 (ParseNetwork_v0m (NetworkText_v0 m9 ps13)), .slice A45 ((ParseNetwork_v0 (NetworkText_v0 m9 ps13)).length) d46]) (r_extract (vs := #[.agg #[.int .i64 (ParseNetwork_v0m (NetworkText_v0 m9 ps13)), .slice A45 ((ParseNetwork_v0 (NetworkText_v0 m9 ps13)).length) d46], .bool (ParseNetwork_v1 (NetworkText_v0 m9 ps13))]) rfl ek kk) ?_
  refine Fq (.bool (ParseNetwork_v1 (NetworkText_v0 m9 ps13))) (r_extract (vs := #[.agg #[.int .i64 (ParseNetwork_v0m (NetworkText_v0 m9 ps13)), .slice A45 ((ParseNetwork_v0 (NetworkText_v0 m9 ps13)).length) d46], .bool (ParseNetwork_v1 (NetworkText_v0 m9 ps13))]) rfl ek kk) ?_
  refine W.sn (fun b => .pointer (some ⟨b, 0, none⟩)) #[.int .i64 0, .slice none 0 0] 24 s54 rfl kk rfl (fun _ => by kernel_rfl) (fun b56 w57 hb58 k59 x60 s61 => ?_)
  apply F.nx
  have lo62 : w.heap.size ≤ b56 := Nl ((Sb c42 s54 nkk)).size (Nat.le_of_eq hb58)
  have sp64 : Sp A45 ((ParseNetwork_v0 (NetworkText_v0 m9 ps13)).length) (some b56) := sp_new rd48 (by have := hb58; omega)
  have rd66 := Rk rd48 k59
  refine W.ss (v := .agg #[.int .i64 (ParseNetwork_v0m (NetworkText_v0 m9 ps13)), .slice A45 ((ParseNetwork_v0 (NetworkText_v0 m9 ps13)).length) d46]) (j := 0) (news := [.int .i64 (ParseNetwork_v0m (NetworkText_v0 m9 ps13)), .slice A45 ((ParseNetwork_v0 (NetworkText_v0 m9 ps13)).length) d46]) (cs' := #[.int .i64 (ParseNetwork_v0m (NetworkText_v0 m9 ps13)), .slice A45 ((ParseNetwork_v0 (NetworkText_v0 m9 ps13)).length) d46]) s61 rfl kk rfl rfl kk kk x60 kk kk (by simp) kk kk (.inr (Nl (s54).size (Nat.le_of_eq hb58))) (fun w67 g68 x69 s70 => ?_)
  have rd71 := rd_sepG rd66 g68 sp64
  refine Fa (.bool (ParseNetwork_v1 (NetworkText_v0 m9 ps13))) ?_
  apply F.es
  have x34 := Sk s70 x34 onn
  have c72 := (Sb c42 s70 nkk)
  have rd73 := Rk rd43 (SG.below s70)
  apply h7
  refine wk fun K8 h8 => ?_
  refine wk fun K9 h9 => ?_
  refine W.region_plain (row := none) [(0, false), (1, true), (2, false), (3, false), (4, false), (5, false), (6, false)] kk ?_
  have s74 := SG.self w67 none
  refine Fq (.agg #[.int .i64 m9, .slice A10 n11 c12]) (r_load2 rfl ek kk kk (sgS (blk_cell (j := 0) x34 kk) onn) (sgS (blk_cell (j := 1) x34 kk) onn)) ?_
  refine Fc [.agg #[.int .i64 m9, .slice A10 n11 c12]] (NT_spec m9 A10 n11 c12 ps13 _ (Rk rd73 (SG.below s74)) (by omega)) ?_
  rintro e w76 ⟨rfl, b75⟩
  have s77 := SG.of_below s74 b75
  refine ⟨_, rfl, s77, ?_⟩
  apply F.nx
  refine Fv (.tuple #[.string (NetworkText_v0 m9 ps13), .bool (goodN m9 ps13)]) ?_
  refine Fq (.string (NetworkText_v0 m9 ps13)) (r_extract (vs := #[.string (NetworkText_v0 m9 ps13), .bool (goodN m9 ps13)]) rfl ek kk) ?_
  refine Fq (.bool (goodN m9 ps13)) (r_extract (vs := #[.string (NetworkText_v0 m9 ps13), .bool (goodN m9 ps13)]) rfl ek kk) ?_
  refine Fa (.string (NetworkText_v0 m9 ps13)) ?_
  refine Fa (.bool (goodN m9 ps13)) ?_
  apply F.es
  have x34 := Sk s77 x34 onn
  have x69 := Sk s77 x69 onn
  have c78 := (Sb c72 s77 nkk)
  have rd79 := Rk rd73 (SG.below s77)
  have rd80 := Rk rd71 (SG.below s77)
  apply h9
  as_aux_lemma =>
   refine joinK (fun amj1 aaj1 wlj1 => Kn aaj1 [(0, .slice A n c), (2, .bool false), (78, .bool false)] 202 ∧ (amj1 = 0) ∧ (Below w.heap.size w wlj1)) ?_ ?_
   ·rintro amj1 aaj1 wlj1 ⟨⟨Uj1, rfl⟩, rfl, c81⟩
    refine wp_cond_false ek ?_
    apply wp_skip
    apply h8
    refine wk fun K10 h10 => ?_
    refine W.region_plain (row := none) [(0, false), (1, true), (2, false)] kk ?_
    have s82 := SG.self wlj1 none
    refine Fv (.slice A n c) ?_
    refine Fc [.slice A n c] (DrawParseNetwork_any A n c zs _ (Rk hcode (Sb c81 s82 nkk)) hz (by have h9 := of_decide_eq_false q5; omega)) ?_
    rintro e w84 ⟨dt9, rfl, hdt, b83⟩
    have s85 := SG.of_below s82 b83
    refine ⟨_, rfl, s85, ?_⟩
    apply F.nx
    refine Fa (.string dt9) ?_
    apply F.es
    have c86 := (Sb c81 s85 nkk)
    apply h10
    refine wk fun K11 h11 => ?_
    refine W.region_plain (row := none) [(0, false), (1, true), (2, false), (3, false), (4, false), (5, true), (6, true), (7, false)] kk ?_
    have s87 := SG.self w84 none
    refine Fv (.string dt9) ?_
    refine Fc [.string dt9] (ParseNetwork_impl dt9 _ (by omega) (tab_kept htab (Sb c86 s87 nkk)) (max_kept hmax (Sb c86 s87 nkk))) ?_
    rintro e w96 ⟨A88, d89, rfl, r90, b95⟩
    have s97 := SG.of_below s87 b95
    refine ⟨_, rfl, s97, ?_⟩
    apply F.nx
    have rd91 := own_rd r90
    have hl93 : (ParseNetwork_v0 dt9).length = (ParseNetwork_v0 dt9).length := rfl
    have hb98 := pn_len dt9
    refine Fv (.tuple #[.agg #[.int .i64 (ParseNetwork_v0m dt9), .slice A88 ((ParseNetwork_v0 dt9).length) d89], .bool (ParseNetwork_v1 dt9)]) ?_
    refine Fq (.agg #[.int .i64 (ParseNetwork_v0m dt9), .slice A88 ((ParseNetwork_v0 dt9).length) d89]) (r_extract (vs := #[.agg #[.int .i64 (ParseNetwork_v0m dt9), .slice A88 ((ParseNetwork_v0 dt9).length) d89], .bool (ParseNetwork_v1 dt9)]) rfl ek kk) ?_
    refine Fq (.bool (ParseNetwork_v1 dt9)) (r_extract (vs := #[.agg #[.int .i64 (ParseNetwork_v0m dt9), .slice A88 ((ParseNetwork_v0 dt9).length) d89], .bool (ParseNetwork_v1 dt9)]) rfl ek kk) ?_
    refine W.sn (fun b => .pointer (some ⟨b, 0, none⟩)) #[.int .i64 0, .slice none 0 0] 24 s97 rfl kk rfl (fun _ => by kernel_rfl) (fun b99 w100 hb101 k102 x103 s104 => ?_)
    apply F.nx
    have lo105 : w.heap.size ≤ b99 := Nl ((Sb c86 s97 nkk)).size (Nat.le_of_eq hb101)
    have sp106 : Sp A88 ((ParseNetwork_v0 dt9).length) (some b99) := sp_new rd91 (by have := hb101; omega)
    have rd107 := Rk rd91 k102
    refine W.ss (v := .agg #[.int .i64 (ParseNetwork_v0m dt9), .slice A88 ((ParseNetwork_v0 dt9).length) d89]) (j := 0) (news := [.int .i64 (ParseNetwork_v0m dt9), .slice A88 ((ParseNetwork_v0 dt9).length) d89]) (cs' := #[.int .i64 (ParseNetwork_v0m dt9), .slice A88 ((ParseNetwork_v0 dt9).length) d89]) s104 rfl kk rfl rfl kk kk x103 kk kk (by simp) kk kk (.inr (Nl (s97).size (Nat.le_of_eq hb101))) (fun w108 g109 x110 s111 => ?_)
    have rd112 := rd_sepG rd107 g109 sp106
    refine Fa (.bool (ParseNetwork_v1 dt9)) ?_
    apply F.es
    have c113 := (Sb c86 s111 nkk)
    apply h11
    refine wk fun K12 h12 => ?_
    refine W.region_plain (row := none) [(0, false), (1, true), (2, false), (3, false), (4, false), (5, false), (6, false)] kk ?_
    have s114 := SG.self w108 none
    refine Fq (.agg #[.int .i64 (ParseNetwork_v0m dt9), .slice A88 ((ParseNetwork_v0 dt9).length) d89]) (r_load2 rfl ek kk kk (sgS (blk_cell (j := 0) x110 kk) onn) (sgS (blk_cell (j := 1) x110 kk) onn)) ?_
    refine Fc [.agg #[.int .i64 (ParseNetwork_v0m dt9), .slice A88 ((ParseNetwork_v0 dt9).length) d89]] (NT_impl (ParseNetwork_v0m dt9) A88 ((ParseNetwork_v0 dt9).length) d89 (ParseNetwork_v0 dt9) _ (Rk rd112 (SG.below s114)) (by omega) (tab_kept htab (Sb c113 s114 nkk))) ?_
    rintro e w116 ⟨rfl, b115⟩
    have s117 := SG.of_below s114 b115
    refine ⟨_, rfl, s117, ?_⟩
    apply F.nx
    refine Fv (.tuple #[.string (NetworkText_v0 (ParseNetwork_v0m dt9) (ParseNetwork_v0 dt9)), .bool (goodN (ParseNetwork_v0m dt9) (ParseNetwork_v0 dt9))]) ?_
    refine Fq (.string (NetworkText_v0 (ParseNetwork_v0m dt9) (ParseNetwork_v0 dt9))) (r_extract (vs := #[.string (NetworkText_v0 (ParseNetwork_v0m dt9) (ParseNetwork_v0 dt9)), .bool (goodN (ParseNetwork_v0m dt9) (ParseNetwork_v0 dt9))]) rfl ek kk) ?_
    refine Fq (.bool (goodN (ParseNetwork_v0m dt9) (ParseNetwork_v0 dt9))) (r_extract (vs := #[.string (NetworkText_v0 (ParseNetwork_v0m dt9) (ParseNetwork_v0 dt9)), .bool (goodN (ParseNetwork_v0m dt9) (ParseNetwork_v0 dt9))]) rfl ek kk) ?_
    refine Fa (.string (NetworkText_v0 (ParseNetwork_v0m dt9) (ParseNetwork_v0 dt9))) ?_
    refine Fa (.bool (goodN (ParseNetwork_v0m dt9) (ParseNetwork_v0 dt9))) ?_
    apply F.es
    have x110 := Sk s117 x110 onn
    have c118 := (Sb c113 s117 nkk)
    have rd119 := Rk rd112 (SG.below s117)
    apply h12
    as_aux_lemma =>
     refine wk fun K13 h13 => ?_
     refine wk fun K14 h14 => ?_
     refine W.region_plain (row := none) [(0, false), (1, true), (2, false), (3, false), (4, false), (5, true), (6, true), (7, false)] kk ?_
     have s120 := SG.self w116 none
     refine Fv (.string dt9) ?_
     refine Fc [.string dt9] (ParseNetwork_spec dt9 _ (by omega)) ?_
     rintro e w129 ⟨A121, d122, rfl, r123, b128⟩
     have s130 := SG.of_below s120 b128
     refine ⟨_, rfl, s130, ?_⟩
     apply F.nx
     have hl126 : (ParseNetwork_v0 dt9).length = (ParseNetwork_v0 dt9).length := rfl
     have hb131 := pn_len dt9
     refine Fv (.tuple #[.agg #[.int .i64 (ParseNetwork_v0m dt9), .slice A121 ((ParseNetwork_v0 dt9).length) d122], .bool (ParseNetwork_v1 dt9)]) ?_
     refine Fq (.agg #[.int .i64 (ParseNetwork_v0m dt9), .slice A121 ((ParseNetwork_v0 dt9).length) d122]) (r_extract (vs := #[.agg #[.int .i64 (ParseNetwork_v0m dt9), .slice A121 ((ParseNetwork_v0 dt9).length) d122], .bool (ParseNetwork_v1 dt9)]) rfl ek kk) ?_
     refine Fq (.bool (ParseNetwork_v1 dt9)) (r_extract (vs := #[.agg #[.int .i64 (ParseNetwork_v0m dt9), .slice A121 ((ParseNetwork_v0 dt9).length) d122], .bool (ParseNetwork_v1 dt9)]) rfl ek kk) ?_
     refine W.sn (fun b => .pointer (some ⟨b, 0, none⟩)) #[.int .i64 0, .slice none 0 0] 24 s130 rfl kk rfl (fun _ => by kernel_rfl) (fun b132 w133 hb134 k135 x136 s137 => ?_)
     apply F.nx
     have lo138 : w.heap.size ≤ b132 := Nl ((Sb c118 s130 nkk)).size (Nat.le_of_eq hb134)
     have sp140 : Sp A121 ((ParseNetwork_v0 dt9).length) (some b132) := sp_new r123 (by have := hb134; omega)
     have rd142 := Rk r123 k135
     refine W.ss (v := .agg #[.int .i64 (ParseNetwork_v0m dt9), .slice A121 ((ParseNetwork_v0 dt9).length) d122]) (j := 0) (news := [.int .i64 (ParseNetwork_v0m dt9), .slice A121 ((ParseNetwork_v0 dt9).length) d122]) (cs' := #[.int .i64 (ParseNetwork_v0m dt9), .slice A121 ((ParseNetwork_v0 dt9).length) d122]) s137 rfl kk rfl rfl kk kk x136 kk kk (by simp) kk kk (.inr (Nl (s130).size (Nat.le_of_eq hb134))) (fun w143 g144 x145 s146 => ?_)
     have rd147 := rd_sepG rd142 g144 sp140
     refine Fa (.bool (ParseNetwork_v1 dt9)) ?_
     apply F.es
     have x110 := Sk s146 x110 onn
     have c148 := (Sb c118 s146 nkk)
     have rd149 := Rk rd119 (SG.below s146)
     apply h14
     refine joinK (fun amj2 aaj2 wlj2 => Kn aaj2 [(0, .slice A n c), (2, .bool false), (116, .bool false)] 202 ∧ (amj2 = 0) ∧ (Below w.heap.size w wlj2)) ?_ ?_
     ·rintro amj2 aaj2 wlj2 ⟨⟨Uj2, rfl⟩, rfl, c150⟩
      refine wp_cond_false ek ?_
      apply wp_skip
      apply h13
      refine wk fun K15 h15 => ?_
      refine W.region_plain (row := none) [(0, false), (1, true), (2, false), (3, false), (4, false), (5, true), (6, true), (7, true), (8, true)] kk ?_
      have s151 := SG.self wlj2 none
      refine Fv (.slice A n c) ?_
      refine Fc [.slice A n c] (DrawAddPipe_any A n c zs _ (Rk hcode (Sb c150 s151 nkk)) hz (by have h9 := of_decide_eq_false q5; omega)) ?_
      rintro e w164 ⟨m152, A153, n154, c155, ps156, x157, rfl, ⟨rd159, fm160⟩, hsm158, b163⟩
      have s165 := SG.of_below s151 b163
      refine ⟨_, rfl, s165, ?_⟩
      apply F.nx
      have hl161 := rd_pipes_len rd159
      have hsm158n := hsm158.2.1
      refine Fv (.tuple #[.agg #[.int .i64 m152, .slice A153 n154 c155], .agg #[.int .i64 x157.id, .int .i64 x157.fr, .int .i64 x157.to, .int .i64 x157.sz]]) ?_
      refine Fq (.agg #[.int .i64 m152, .slice A153 n154 c155]) (r_extract (vs := #[.agg #[.int .i64 m152, .slice A153 n154 c155], .agg #[.int .i64 x157.id, .int .i64 x157.fr, .int .i64 x157.to, .int .i64 x157.sz]]) rfl ek kk) ?_
      refine Fq (.agg #[.int .i64 x157.id, .int .i64 x157.fr, .int .i64 x157.to, .int .i64 x157.sz]) (r_extract (vs := #[.agg #[.int .i64 m152, .slice A153 n154 c155], .agg #[.int .i64 x157.id, .int .i64 x157.fr, .int .i64 x157.to, .int .i64 x157.sz]]) rfl ek kk) ?_
      refine W.sn (fun b => .pointer (some ⟨b, 0, none⟩)) #[.int .i64 0, .slice none 0 0] 24 s165 rfl kk rfl (fun _ => by kernel_rfl) (fun b166 w167 hb168 k169 x170 s171 => ?_)
      apply F.nx
      have lo172 : w.heap.size ≤ b166 := Nl ((Sb c150 s165 nkk)).size (Nat.le_of_eq hb168)
      have sp173 : Sp A153 n154 (some b166) := sp_new rd159 (by have := hb168; omega)
      have rd174 := Rk rd159 k169
      refine W.sn (fun b => .pointer (some ⟨b, 0, none⟩)) #[.int .i64 0, .int .i64 0, .int .i64 0, .int .i64 0] 38 s171 rfl kk rfl (fun _ => by kernel_rfl) (fun b175 w176 hb177 k178 x179 s180 => ?_)
      apply F.nx
      have lo181 : w.heap.size ≤ b175 := Nl ((Sb c150 s171 nkk)).size (Nat.le_of_eq hb177)
      have sp182 : Sp A153 n154 (some b175) := sp_new rd174 (by have := hb177; omega)
      have ne183 : b166 ≠ b175 := Nat.ne_of_lt (Nat.lt_of_lt_of_eq (blk_lt x170) hb177)
      have x170 := (k178.block _ (blk_lt x170)).trans x170
      have rd184 := Rk rd174 k178
      refine W.ss (v := .agg #[.int .i64 m152, .slice A153 n154 c155]) (j := 0) (news := [.int .i64 m152, .slice A153 n154 c155]) (cs' := #[.int .i64 m152, .slice A153 n154 c155]) s180 rfl kk rfl rfl kk kk x170 kk kk (by simp) kk kk (.inr (Nl (s165).size (Nat.le_of_eq hb168))) (fun w185 g186 x187 s188 => ?_)
      have x179 := (g186.block _ (blk_lt x179) (fun e9 => ne183 (Option.some.inj e9).symm)).trans x179
      have rd189 := rd_sepG rd184 g186 sp173
      refine W.ss (v := .agg #[.int .i64 x157.id, .int .i64 x157.fr, .int .i64 x157.to, .int .i64 x157.sz]) (j := 0) (news := [.int .i64 x157.id, .int .i64 x157.fr, .int .i64 x157.to, .int .i64 x157.sz]) (cs' := #[.int .i64 x157.id, .int .i64 x157.fr, .int .i64 x157.to, .int .i64 x157.sz]) s188 rfl kk rfl rfl kk kk x179 kk kk (by simp) kk kk (.inr (Nl (s171).size (Nat.le_of_eq hb177))) (fun w190 g191 x192 s193 => ?_)
      have x187 := (g191.block _ (blk_lt x187) (fun e9 => ne183 (Option.some.inj e9))).trans x187
      have rd194 := rd_sepG rd189 g191 sp182
      apply F.es
      have c195 := (Sb c150 s193 nkk)
      apply h15
      as_aux_lemma =>
       refine wk fun K16 h16 => ?_
       refine W.region_plain (row := none) [(0, false), (1, false), (2, true), (3, false), (4, false), (5, false), (6, true), (7, true), (8, false)] kk ?_
       have s196 := SG.self w190 none
       refine Fq (.agg #[.int .i64 m152, .slice A153 n154 c155]) (r_load2 rfl ek kk kk (sgS (blk_cell (j := 0) x187 kk) onn) (sgS (blk_cell (j := 1) x187 kk) onn)) ?_
       refine Fq (.agg #[.int .i64 x157.id, .int .i64 x157.fr, .int .i64 x157.to, .int .i64 x157.sz]) (r_load4 rfl ek kk kk (sgS (blk_cell (j := 0) x192 kk) onn) (sgS (blk_cell (j := 1) x192 kk) onn) (sgS (blk_cell (j := 2) x192 kk) onn) (sgS (blk_cell (j := 3) x192 kk) onn)) ?_
       refine Fc [.agg #[.int .i64 m152, .slice A153 n154 c155], .agg #[.int .i64 x157.id, .int .i64 x157.fr, .int .i64 x157.to, .int .i64 x157.sz]] (AddPipe_impl m152 A153 n154 c155 ps156 x157 _ (Rk rd194 (SG.below s196)) (by omega) fm160) ?_
       rintro e w205 ⟨A197, d198, rfl, r199, b204⟩
       have s206 := SG.of_below s196 b204
       refine ⟨_, rfl, s206, ?_⟩
       apply F.nx
       have rd200 := own_rd r199
       have fm201 := own_fm r199
       have hl202 : (AddPipe_v0 m152 ps156 x157).length = (AddPipe_v0 m152 ps156 x157).length := rfl
       have hb207 := AddPipe_len m152 ps156 x157
       refine Fv (.tuple #[.agg #[.int .i64 (AddPipe_m0 m152 ps156 x157), .slice A197 ((AddPipe_v0 m152 ps156 x157).length) d198], .bool (AddPipe_v1 m152 ps156 x157)]) ?_
       refine Fq (.agg #[.int .i64 (AddPipe_m0 m152 ps156 x157), .slice A197 ((AddPipe_v0 m152 ps156 x157).length) d198]) (r_extract (vs := #[.agg #[.int .i64 (AddPipe_m0 m152 ps156 x157), .slice A197 ((AddPipe_v0 m152 ps156 x157).length) d198], .bool (AddPipe_v1 m152 ps156 x157)]) rfl ek kk) ?_
       refine Fq (.bool (AddPipe_v1 m152 ps156 x157)) (r_extract (vs := #[.agg #[.int .i64 (AddPipe_m0 m152 ps156 x157), .slice A197 ((AddPipe_v0 m152 ps156 x157).length) d198], .bool (AddPipe_v1 m152 ps156 x157)]) rfl ek kk) ?_
       refine W.sn (fun b => .pointer (some ⟨b, 0, none⟩)) #[.int .i64 0, .slice none 0 0] 24 s206 rfl kk rfl (fun _ => by kernel_rfl) (fun b208 w209 hb210 k211 x212 s213 => ?_)
       apply F.nx
       have lo214 : w.heap.size ≤ b208 := Nl ((Sb c195 s206 nkk)).size (Nat.le_of_eq hb210)
       have sp216 : Sp A197 ((AddPipe_v0 m152 ps156 x157).length) (some b208) := sp_new rd200 (by have := hb210; omega)
       have rd219 := Rk rd200 k211
       refine W.ss (v := .agg #[.int .i64 (AddPipe_m0 m152 ps156 x157), .slice A197 ((AddPipe_v0 m152 ps156 x157).length) d198]) (j := 0) (news := [.int .i64 (AddPipe_m0 m152 ps156 x157), .slice A197 ((AddPipe_v0 m152 ps156 x157).length) d198]) (cs' := #[.int .i64 (AddPipe_m0 m152 ps156 x157), .slice A197 ((AddPipe_v0 m152 ps156 x157).length) d198]) s213 rfl kk rfl rfl kk kk x212 kk kk (by simp) kk kk (.inr (Nl (s206).size (Nat.le_of_eq hb210))) (fun w220 g221 x222 s223 => ?_)
       have rd224 := rd_sepG rd219 g221 sp216
       refine Fa (.bool (AddPipe_v1 m152 ps156 x157)) ?_
       apply F.es
       have x187 := Sk s223 x187 onn
       have x192 := Sk s223 x192 onn
       have c225 := (Sb c195 s223 nkk)
       have rd226 := Rk rd194 (SG.below s223)
       apply h16
       refine wk fun K17 h17 => ?_
       refine wk fun K18 h18 => ?_
       refine W.region_plain (row := none) [(0, false), (1, false), (2, true), (3, false), (4, false), (5, false), (6, true), (7, true), (8, false)] kk ?_
       have s227 := SG.self w220 none
       refine Fq (.agg #[.int .i64 m152, .slice A153 n154 c155]) (r_load2 rfl ek kk kk (sgS (blk_cell (j := 0) x187 kk) onn) (sgS (blk_cell (j := 1) x187 kk) onn)) ?_
       refine Fq (.agg #[.int .i64 x157.id, .int .i64 x157.fr, .int .i64 x157.to, .int .i64 x157.sz]) (r_load4 rfl ek kk kk (sgS (blk_cell (j := 0) x192 kk) onn) (sgS (blk_cell (j := 1) x192 kk) onn) (sgS (blk_cell (j := 2) x192 kk) onn) (sgS (blk_cell (j := 3) x192 kk) onn)) ?_
       refine Fc [.agg #[.int .i64 m152, .slice A153 n154 c155], .agg #[.int .i64 x157.id, .int .i64 x157.fr, .int .i64 x157.to, .int .i64 x157.sz]] (AddPipe_spec m152 A153 n154 c155 ps156 x157 _ (Rk rd226 (SG.below s227)) (by omega) fm160) ?_
       rintro e w236 ⟨A228, d229, rfl, r230, b235⟩
       have s237 := SG.of_below s227 b235
       refine ⟨_, rfl, s237, ?_⟩
       apply F.nx
       have hl233 : (AddPipe_v0 m152 ps156 x157).length = (AddPipe_v0 m152 ps156 x157).length := rfl
       have hb238 := AddPipe_len m152 ps156 x157
       refine Fv (.tuple #[.agg #[.int .i64 (AddPipe_m0 m152 ps156 x157), .slice A228 ((AddPipe_v0 m152 ps156 x157).length) d229], .bool (AddPipe_v1 m152 ps156 x157)]) ?_
       refine Fq (.agg #[.int .i64 (AddPipe_m0 m152 ps156 x157), .slice A228 ((AddPipe_v0 m152 ps156 x157).length) d229]) (r_extract (vs := #[.agg #[.int .i64 (AddPipe_m0 m152 ps156 x157), .slice A228 ((AddPipe_v0 m152 ps156 x157).length) d229], .bool (AddPipe_v1 m152 ps156 x157)]) rfl ek kk) ?_
       refine Fq (.bool (AddPipe_v1 m152 ps156 x157)) (r_extract (vs := #[.agg #[.int .i64 (AddPipe_m0 m152 ps156 x157), .slice A228 ((AddPipe_v0 m152 ps156 x157).length) d229], .bool (AddPipe_v1 m152 ps156 x157)]) rfl ek kk) ?_
       refine W.sn (fun b => .pointer (some ⟨b, 0, none⟩)) #[.int .i64 0, .slice none 0 0] 24 s237 rfl kk rfl (fun _ => by kernel_rfl) (fun b239 w240 hb241 k242 x243 s244 => ?_)
       apply F.nx
       have lo245 : w.heap.size ≤ b239 := Nl ((Sb c225 s237 nkk)).size (Nat.le_of_eq hb241)
       have sp248 : Sp A228 ((AddPipe_v0 m152 ps156 x157).length) (some b239) := sp_new r230 (by have := hb241; omega)
       have rd252 := Rk r230 k242
       refine W.ss (v := .agg #[.int .i64 (AddPipe_m0 m152 ps156 x157), .slice A228 ((AddPipe_v0 m152 ps156 x157).length) d229]) (j := 0) (news := [.int .i64 (AddPipe_m0 m152 ps156 x157), .slice A228 ((AddPipe_v0 m152 ps156 x157).length) d229]) (cs' := #[.int .i64 (AddPipe_m0 m152 ps156 x157), .slice A228 ((AddPipe_v0 m152 ps156 x157).length) d229]) s244 rfl kk rfl rfl kk kk x243 kk kk (by simp) kk kk (.inr (Nl (s237).size (Nat.le_of_eq hb241))) (fun w253 g254 x255 s256 => ?_)
       have rd257 := rd_sepG rd252 g254 sp248
       refine Fa (.bool (AddPipe_v1 m152 ps156 x157)) ?_
       apply F.es
       have x187 := Sk s256 x187 onn
       have x192 := Sk s256 x192 onn
       have x222 := Sk s256 x222 onn
       have c258 := (Sb c225 s256 nkk)
       have rd259 := Rk rd226 (SG.below s256)
       have rd260 := Rk rd224 (SG.below s256)
       apply h18
       as_aux_lemma =>
        refine wk fun K19 h19 => ?_
        refine W.region_plain (row := none) [(0, false), (1, false), (2, false), (3, false), (4, false), (5, false), (6, true), (7, false), (8, false)] kk ?_
        have s261 := SG.self w253 none
        refine Fv (.bool (AddPipe_v1 m152 ps156 x157)) ?_
        refine Fv (.bool (AddPipe_v1 m152 ps156 x157)) ?_
        refine Fq (.bool false) (r_neqB (m := (AddPipe_v1 m152 ps156 x157)) (n := (AddPipe_v1 m152 ps156 x157)) rfl ek ek kk (by rw [show ((AddPipe_v1 m152 ps156 x157) == (AddPipe_v1 m152 ps156 x157)) = true from beq_iff_eq.2 rfl]; try rfl)) ?_
        refine Fv (.bool false) ?_
        refine Fq (.agg #[.int .i64 (AddPipe_m0 m152 ps156 x157), .slice A197 ((AddPipe_v0 m152 ps156 x157).length) d198]) (r_load2 rfl ek kk kk (sgS (blk_cell (j := 0) x222 kk) onn) (sgS (blk_cell (j := 1) x222 kk) onn)) ?_
        refine Fq (.agg #[.int .i64 (AddPipe_m0 m152 ps156 x157), .slice A228 ((AddPipe_v0 m152 ps156 x157).length) d229]) (r_load2 rfl ek kk kk (sgS (blk_cell (j := 0) x255 kk) onn) (sgS (blk_cell (j := 1) x255 kk) onn)) ?_
        refine Fc [.agg #[.int .i64 (AddPipe_m0 m152 ps156 x157), .slice A197 ((AddPipe_v0 m152 ps156 x157).length) d198], .agg #[.int .i64 (AddPipe_m0 m152 ps156 x157), .slice A228 ((AddPipe_v0 m152 ps156 x157).length) d229]] (vNetwork_same (AddPipe_m0 m152 ps156 x157) A197 A228 ((AddPipe_v0 m152 ps156 x157).length) d198 d229 (AddPipe_v0 m152 ps156 x157) _ (Rk rd260 (SG.below s261)) (Rk rd257 (SG.below s261)) (by omega)) ?_
        rintro e w263 ⟨rfl, b262⟩
        have s264 := SG.of_below s261 b262
        refine ⟨_, rfl, s264, ?_⟩
        apply F.nx
        refine Fq (.bool false) (r_not (b := true) rfl ek rfl) ?_
        refine Fq (.bool false) (r_pick (b := false) rfl ek ek) ?_
        apply F.es
        have x187 := Sk s264 x187 onn
        have x192 := Sk s264 x192 onn
        have x222 := Sk s264 x222 onn
        have c265 := (Sb c258 s264 nkk)
        have rd266 := Rk rd259 (SG.below s264)
        have rd267 := Rk rd260 (SG.below s264)
        apply h19
        refine wp_cond_false ek ?_
        apply wp_skip
        apply h17
        refine wk fun K20 h20 => ?_
        refine wk fun K21 h21 => ?_
        refine Rq 1 ?_
        refine Fv (.bool (AddPipe_v1 m152 ps156 x157)) ?_
        apply F.es
        apply h21
        rcases Bool.eq_false_or_eq_true (AddPipe_v1 m152 ps156 x157) with q269 | q269
        ·rw [q269]
         refine wp_cond_true ek ?_
         refine wk fun K22 h22 => ?_
         refine W.region_plain (row := none) [(0, false), (1, false), (2, false), (3, true), (4, false), (5, false), (6, false), (7, true), (8, true), (9, false)] kk ?_
         have s270 := SG.self w263 none
         refine Fq (.agg #[.int .i64 (AddPipe_m0 m152 ps156 x157), .slice A197 ((AddPipe_v0 m152 ps156 x157).length) d198]) (r_load2 rfl ek kk kk (sgS (blk_cell (j := 0) x222 kk) onn) (sgS (blk_cell (j := 1) x222 kk) onn)) ?_
         refine Fq (.pointer (some ⟨b175, 0, none⟩)) (r_field0 rfl ek kk) ?_
         refine Fl (.int .i64 x157.id) (sgS (blk_cell (j := 0) x192 kk) onn) ?_
         refine Fc [.agg #[.int .i64 (AddPipe_m0 m152 ps156 x157), .slice A197 ((AddPipe_v0 m152 ps156 x157).length) d198], .int .i64 x157.id] (RemovePipe_impl (AddPipe_m0 m152 ps156 x157) A197 ((AddPipe_v0 m152 ps156 x157).length) d198 (AddPipe_v0 m152 ps156 x157) x157.id _ (Rk rd267 (SG.below s270)) (by omega) fm201) ?_
         rintro e w279 ⟨A271, d272, rfl, r273, b278⟩
         have s280 := SG.of_below s270 b278
         refine ⟨_, rfl, s280, ?_⟩
         apply F.nx
         have rd274 := own_rd r273
         have hl276 : (RemovePipe_v0 (AddPipe_m0 m152 ps156 x157) (AddPipe_v0 m152 ps156 x157) x157.id).length = (RemovePipe_v0 (AddPipe_m0 m152 ps156 x157) (AddPipe_v0 m152 ps156 x157) x157.id).length := rfl
         have hb281 := RemovePipe_len (AddPipe_m0 m152 ps156 x157) (AddPipe_v0 m152 ps156 x157) x157.id
         refine Fv (.tuple #[.agg #[.int .i64 (RemovePipe_m0 (AddPipe_m0 m152 ps156 x157) (AddPipe_v0 m152 ps156 x157) x157.id), .slice A271 ((RemovePipe_v0 (AddPipe_m0 m152 ps156 x157) (AddPipe_v0 m152 ps156 x157) x157.id).length) d272], .bool (RemovePipe_v1 (AddPipe_m0 m152 ps156 x157) (AddPipe_v0 m152 ps156 x157) x157.id)]) ?_
         refine Fq (.agg #[.int .i64 (RemovePipe_m0 (AddPipe_m0 m152 ps156 x157) (AddPipe_v0 m152 ps156 x157) x157.id), .slice A271 ((RemovePipe_v0 (AddPipe_m0 m152 ps156 x157) (AddPipe_v0 m152 ps156 x157) x157.id).length) d272]) (r_extract (vs := #[.agg #[.int .i64 (RemovePipe_m0 (AddPipe_m0 m152 ps156 x157) (AddPipe_v0 m152 ps156 x157) x157.id), .slice A271 ((RemovePipe_v0 (AddPipe_m0 m152 ps156 x157) (AddPipe_v0 m152 ps156 x157) x157.id).length) d272], .bool (RemovePipe_v1 (AddPipe_m0 m152 ps156 x157) (AddPipe_v0 m152 ps156 x157) x157.id)]) rfl ek kk) ?_
         refine Fq (.bool (RemovePipe_v1 (AddPipe_m0 m152 ps156 x157) (AddPipe_v0 m152 ps156 x157) x157.id)) (r_extract (vs := #[.agg #[.int .i64 (RemovePipe_m0 (AddPipe_m0 m152 ps156 x157) (AddPipe_v0 m152 ps156 x157) x157.id), .slice A271 ((RemovePipe_v0 (AddPipe_m0 m152 ps156 x157) (AddPipe_v0 m152 ps156 x157) x157.id).length) d272], .bool (RemovePipe_v1 (AddPipe_m0 m152 ps156 x157) (AddPipe_v0 m152 ps156 x157) x157.id)]) rfl ek kk) ?_
         refine W.sn (fun b => .pointer (some ⟨b, 0, none⟩)) #[.int .i64 0, .slice none 0 0] 24 s280 rfl kk rfl (fun _ => by kernel_rfl) (fun b282 w283 hb284 k285 x286 s287 => ?_)
         apply F.nx
         have lo288 : w.heap.size ≤ b282 := Nl ((Sb c265 s280 nkk)).size (Nat.le_of_eq hb284)
         have sp292 : Sp A271 ((RemovePipe_v0 (AddPipe_m0 m152 ps156 x157) (AddPipe_v0 m152 ps156 x157) x157.id).length) (some b282) := sp_new rd274 (by have := hb284; omega)
         have rd297 := Rk rd274 k285
         refine W.ss (v := .agg #[.int .i64 (RemovePipe_m0 (AddPipe_m0 m152 ps156 x157) (AddPipe_v0 m152 ps156 x157) x157.id), .slice A271 ((RemovePipe_v0 (AddPipe_m0 m152 ps156 x157) (AddPipe_v0 m152 ps156 x157) x157.id).length) d272]) (j := 0) (news := [.int .i64 (RemovePipe_m0 (AddPipe_m0 m152 ps156 x157) (AddPipe_v0 m152 ps156 x157) x157.id), .slice A271 ((RemovePipe_v0 (AddPipe_m0 m152 ps156 x157) (AddPipe_v0 m152 ps156 x157) x157.id).length) d272]) (cs' := #[.int .i64 (RemovePipe_m0 (AddPipe_m0 m152 ps156 x157) (AddPipe_v0 m152 ps156 x157) x157.id), .slice A271 ((RemovePipe_v0 (AddPipe_m0 m152 ps156 x157) (AddPipe_v0 m152 ps156 x157) x157.id).length) d272]) s287 rfl kk rfl rfl kk kk x286 kk kk (by simp) kk kk (.inr (Nl (s280).size (Nat.le_of_eq hb284))) (fun w298 g299 x300 s301 => ?_)
         have rd302 := rd_sepG rd297 g299 sp292
         refine Fa (.bool (RemovePipe_v1 (AddPipe_m0 m152 ps156 x157) (AddPipe_v0 m152 ps156 x157) x157.id)) ?_
         apply F.es
         have x187 := Sk s301 x187 onn
         have x192 := Sk s301 x192 onn
         have x222 := Sk s301 x222 onn
         have c303 := (Sb c265 s301 nkk)
         have rd304 := Rk rd266 (SG.below s301)
         have rd305 := Rk rd267 (SG.below s301)
         apply h22
         as_aux_lemma =>
          refine wk fun K23 h23 => ?_
          refine W.region_plain (row := none) [(0, false), (1, false), (2, false), (3, true), (4, false), (5, false), (6, false), (7, false), (8, false)] kk ?_
          have s307 := SG.self w298 none
          refine Fq (.agg #[.int .i64 (AddPipe_m0 m152 ps156 x157), .slice A197 ((AddPipe_v0 m152 ps156 x157).length) d198]) (r_load2 rfl ek kk kk (sgS (blk_cell (j := 0) x222 kk) onn) (sgS (blk_cell (j := 1) x222 kk) onn)) ?_
          refine Fq (.pointer (some ⟨b175, 1, none⟩)) (r_field (k := 1) rfl ek kk) ?_
          refine Fl (.int .i64 x157.fr) (sgS (blk_cell (j := 1) x192 kk) onn) ?_
          refine Fc [.agg #[.int .i64 (AddPipe_m0 m152 ps156 x157), .slice A197 ((AddPipe_v0 m152 ps156 x157).length) d198], .int .i64 x157.fr] (PipesAt_impl (AddPipe_m0 m152 ps156 x157) A197 ((AddPipe_v0 m152 ps156 x157).length) d198 (AddPipe_v0 m152 ps156 x157) x157.fr _ (Rk rd305 (SG.below s307)) (by omega)) ?_
          rintro e w316 ⟨A308, d309, rfl, r310, b315⟩
          have s317 := SG.of_below s307 b315
          refine ⟨_, rfl, s317, ?_⟩
          apply F.nx
          have rd311 := own_rd r310
          have hl313 : (PipesAt_v0 (AddPipe_m0 m152 ps156 x157) (AddPipe_v0 m152 ps156 x157) x157.fr).length = (PipesAt_v0 (AddPipe_m0 m152 ps156 x157) (AddPipe_v0 m152 ps156 x157) x157.fr).length := rfl
          have hb318 := PipesAt_len (AddPipe_m0 m152 ps156 x157) (AddPipe_v0 m152 ps156 x157) x157.fr
          refine Fv (.tuple #[.slice A308 ((PipesAt_v0 (AddPipe_m0 m152 ps156 x157) (AddPipe_v0 m152 ps156 x157) x157.fr).length) d309, .bool (PipesAt_v1 (AddPipe_m0 m152 ps156 x157) (AddPipe_v0 m152 ps156 x157) x157.fr)]) ?_
          refine Fq (.slice A308 ((PipesAt_v0 (AddPipe_m0 m152 ps156 x157) (AddPipe_v0 m152 ps156 x157) x157.fr).length) d309) (r_extract (vs := #[.slice A308 ((PipesAt_v0 (AddPipe_m0 m152 ps156 x157) (AddPipe_v0 m152 ps156 x157) x157.fr).length) d309, .bool (PipesAt_v1 (AddPipe_m0 m152 ps156 x157) (AddPipe_v0 m152 ps156 x157) x157.fr)]) rfl ek kk) ?_
          refine Fq (.bool (PipesAt_v1 (AddPipe_m0 m152 ps156 x157) (AddPipe_v0 m152 ps156 x157) x157.fr)) (r_extract (vs := #[.slice A308 ((PipesAt_v0 (AddPipe_m0 m152 ps156 x157) (AddPipe_v0 m152 ps156 x157) x157.fr).length) d309, .bool (PipesAt_v1 (AddPipe_m0 m152 ps156 x157) (AddPipe_v0 m152 ps156 x157) x157.fr)]) rfl ek kk) ?_
          refine Fa (.slice A308 ((PipesAt_v0 (AddPipe_m0 m152 ps156 x157) (AddPipe_v0 m152 ps156 x157) x157.fr).length) d309) ?_
          refine Fa (.bool (PipesAt_v1 (AddPipe_m0 m152 ps156 x157) (AddPipe_v0 m152 ps156 x157) x157.fr)) ?_
          apply F.es
          have x187 := Sk s317 x187 onn
          have x192 := Sk s317 x192 onn
          have x300 := Sk s317 x300 onn
          have c319 := (Sb c303 s317 nkk)
          have rd320 := Rk rd304 (SG.below s317)
          have rd323 := Rk rd302 (SG.below s317)
          apply h23
          refine wk fun K24 h24 => ?_
          refine W.region_plain (row := none) [(0, false), (1, false), (2, false), (3, false), (4, false), (5, true), (6, false), (7, false), (8, false), (9, false), (10, false), (11, false), (12, false), (13, false), (14, false), (15, false), (16, true), (17, false), (18, false)] kk ?_
          have s324 := SG.self w316 none
          refine Fv (.bool (RemovePipe_v1 (AddPipe_m0 m152 ps156 x157) (AddPipe_v0 m152 ps156 x157) x157.id)) ?_
          have q325 : (RemovePipe_v1 (AddPipe_m0 m152 ps156 x157) (AddPipe_v0 m152 ps156 x157) x157.id) = true := (add_law q269).1.1
          rw [q325]
          refine Fq (.bool false) (r_not (b := true) rfl ek rfl) ?_
          refine Fv (.bool false) ?_
          refine Fq (.agg #[.int .i64 (RemovePipe_m0 (AddPipe_m0 m152 ps156 x157) (AddPipe_v0 m152 ps156 x157) x157.id), .slice A271 ((RemovePipe_v0 (AddPipe_m0 m152 ps156 x157) (AddPipe_v0 m152 ps156 x157) x157.id).length) d272]) (r_load2 rfl ek kk kk (sgS (blk_cell (j := 0) x300 kk) onn) (sgS (blk_cell (j := 1) x300 kk) onn)) ?_
          refine Fq (.agg #[.int .i64 m152, .slice A153 n154 c155]) (r_load2 rfl ek kk kk (sgS (blk_cell (j := 0) x187 kk) onn) (sgS (blk_cell (j := 1) x187 kk) onn)) ?_
          refine Fc [.agg #[.int .i64 (RemovePipe_m0 (AddPipe_m0 m152 ps156 x157) (AddPipe_v0 m152 ps156 x157) x157.id), .slice A271 ((RemovePipe_v0 (AddPipe_m0 m152 ps156 x157) (AddPipe_v0 m152 ps156 x157) x157.id).length) d272], .agg #[.int .i64 m152, .slice A153 n154 c155]] (vNetwork_eq m152 (RemovePipe_m0 (AddPipe_m0 m152 ps156 x157) (AddPipe_v0 m152 ps156 x157) x157.id) A271 A153 n154 ((RemovePipe_v0 (AddPipe_m0 m152 ps156 x157) (AddPipe_v0 m152 ps156 x157) x157.id).length) d272 c155 ps156 (RemovePipe_v0 (AddPipe_m0 m152 ps156 x157) (AddPipe_v0 m152 ps156 x157) x157.id) _ (add_law q269).1.2.1 (add_law q269).1.2.2 (Rk rd323 (SG.below s324)) (Rk rd320 (SG.below s324)) (by omega)) ?_
          rintro e w327 ⟨rfl, b326⟩
          have s328 := SG.of_below s324 b326
          refine ⟨_, rfl, s328, ?_⟩
          apply F.nx
          refine Fq (.bool false) (r_not (b := true) rfl ek rfl) ?_
          refine Fq (.bool false) (r_pick (b := false) rfl ek ek) ?_
          refine Fv (.bool false) ?_
          refine Fv (.bool (PipesAt_v1 (AddPipe_m0 m152 ps156 x157) (AddPipe_v0 m152 ps156 x157) x157.fr)) ?_
          have q329 : (PipesAt_v1 (AddPipe_m0 m152 ps156 x157) (AddPipe_v0 m152 ps156 x157) x157.fr) = true := (add_law q269).2.1
          rw [q329]
          refine Fq (.bool false) (r_not (b := true) rfl ek rfl) ?_
          refine Fq (.bool false) (r_pick (b := false) rfl ek ek) ?_
          refine Fv (.bool false) ?_
          refine Fv (.slice A308 ((PipesAt_v0 (AddPipe_m0 m152 ps156 x157) (AddPipe_v0 m152 ps156 x157) x157.fr).length) d309) ?_
          refine Fq (.pointer (some ⟨b175, 0, none⟩)) (r_field0 rfl ek kk) ?_
          refine Fl (.int .i64 x157.id) (sgS (blk_cell (j := 0) x192 kk) onn) ?_
          refine Fc [.slice A308 ((PipesAt_v0 (AddPipe_m0 m152 ps156 x157) (AddPipe_v0 m152 ps156 x157) x157.fr).length) d309, .int .i64 x157.id] (vHas_any A308 ((PipesAt_v0 (AddPipe_m0 m152 ps156 x157) (AddPipe_v0 m152 ps156 x157) x157.fr).length) d309 (PipesAt_v0 (AddPipe_m0 m152 ps156 x157) (AddPipe_v0 m152 ps156 x157) x157.fr) x157.id _ (Rk rd311 (SG.below s328)) (by omega)) ?_
          rintro e w331 ⟨rfl, b330⟩
          have s332 := SG.of_below s328 b330
          refine ⟨_, rfl, s332, ?_⟩
          apply F.nx
          have q333 : ((PipesAt_v0 (AddPipe_m0 m152 ps156 x157) (AddPipe_v0 m152 ps156 x157) x157.fr).contains x157.id) = true := (add_law q269).2.2
          rw [q333]
          refine Fq (.bool false) (r_not (b := true) rfl ek rfl) ?_
          refine Fq (.bool false) (r_pick (b := false) rfl ek ek) ?_
          apply F.es
          have c334 := (Sb c319 s332 nkk)
          apply h24
          as_aux_lemma =>
           refine wp_cond_false ek ?_
           apply wp_skip
           apply h20
           refine wk fun K25 h25 => ?_
           refine W.region_plain (row := none) [(0, false), (1, true), (2, false), (3, false), (4, false), (5, true), (6, true), (7, false)] kk ?_
           have s340 := SG.self w331 none
           refine Fv (.slice A n c) ?_
           refine Fc [.slice A n c] (DrawRemovePipe_any A n c zs _ (Rk hcode (Sb c334 s340 nkk)) hz (by have h9 := of_decide_eq_false q5; omega)) ?_
           rintro e w353 ⟨m341, A342, n343, c344, ps345, x346, rfl, ⟨rd348, fm349⟩, hsm347, b352⟩
           have s354 := SG.of_below s340 b352
           refine ⟨_, rfl, s354, ?_⟩
           apply F.nx
           have hl350 := rd_pipes_len rd348
           have hsm347n := hsm347.2.1
           refine Fv (.tuple #[.agg #[.int .i64 m341, .slice A342 n343 c344], .int .i64 x346]) ?_
           refine Fq (.agg #[.int .i64 m341, .slice A342 n343 c344]) (r_extract (vs := #[.agg #[.int .i64 m341, .slice A342 n343 c344], .int .i64 x346]) rfl ek kk) ?_
           refine Fq (.int .i64 x346) (r_extract (vs := #[.agg #[.int .i64 m341, .slice A342 n343 c344], .int .i64 x346]) rfl ek kk) ?_
           refine W.sn (fun b => .pointer (some ⟨b, 0, none⟩)) #[.int .i64 0, .slice none 0 0] 24 s354 rfl kk rfl (fun _ => by kernel_rfl) (fun b355 w356 hb357 k358 x359 s360 => ?_)
           apply F.nx
           have lo361 : w.heap.size ≤ b355 := Nl ((Sb c334 s354 nkk)).size (Nat.le_of_eq hb357)
           have sp367 : Sp A342 n343 (some b355) := sp_new rd348 (by have := hb357; omega)
           have rd373 := Rk rd348 k358
           refine W.ss (v := .agg #[.int .i64 m341, .slice A342 n343 c344]) (j := 0) (news := [.int .i64 m341, .slice A342 n343 c344]) (cs' := #[.int .i64 m341, .slice A342 n343 c344]) s360 rfl kk rfl rfl kk kk x359 kk kk (by simp) kk kk (.inr (Nl (s354).size (Nat.le_of_eq hb357))) (fun w374 g375 x376 s377 => ?_)
           have rd378 := rd_sepG rd373 g375 sp367
           refine Fa (.int .i64 x346) ?_
           apply F.es
           have c379 := (Sb c334 s377 nkk)
           apply h25
           refine wk fun K26 h26 => ?_
           refine W.region_plain (row := none) [(0, false), (1, false), (2, true), (3, false), (4, false), (5, false), (6, true), (7, true), (8, false)] kk ?_
           have s385 := SG.self w374 none
           refine Fq (.agg #[.int .i64 m341, .slice A342 n343 c344]) (r_load2 rfl ek kk kk (sgS (blk_cell (j := 0) x376 kk) onn) (sgS (blk_cell (j := 1) x376 kk) onn)) ?_
           refine Fv (.int .i64 x346) ?_
           refine Fc [.agg #[.int .i64 m341, .slice A342 n343 c344], .int .i64 x346] (RemovePipe_impl m341 A342 n343 c344 ps345 x346 _ (Rk rd378 (SG.below s385)) (by omega) fm349) ?_
           rintro e w394 ⟨A386, d387, rfl, r388, b393⟩
           have s395 := SG.of_below s385 b393
           refine ⟨_, rfl, s395, ?_⟩
           apply F.nx
           have rd389 := own_rd r388
           have hl391 : (RemovePipe_v0 m341 ps345 x346).length = (RemovePipe_v0 m341 ps345 x346).length := rfl
           have hb396 := RemovePipe_len m341 ps345 x346
           refine Fv (.tuple #[.agg #[.int .i64 (RemovePipe_m0 m341 ps345 x346), .slice A386 ((RemovePipe_v0 m341 ps345 x346).length) d387], .bool (RemovePipe_v1 m341 ps345 x346)]) ?_
           refine Fq (.agg #[.int .i64 (RemovePipe_m0 m341 ps345 x346), .slice A386 ((RemovePipe_v0 m341 ps345 x346).length) d387]) (r_extract (vs := #[.agg #[.int .i64 (RemovePipe_m0 m341 ps345 x346), .slice A386 ((RemovePipe_v0 m341 ps345 x346).length) d387], .bool (RemovePipe_v1 m341 ps345 x346)]) rfl ek kk) ?_
           refine Fq (.bool (RemovePipe_v1 m341 ps345 x346)) (r_extract (vs := #[.agg #[.int .i64 (RemovePipe_m0 m341 ps345 x346), .slice A386 ((RemovePipe_v0 m341 ps345 x346).length) d387], .bool (RemovePipe_v1 m341 ps345 x346)]) rfl ek kk) ?_
           refine W.sn (fun b => .pointer (some ⟨b, 0, none⟩)) #[.int .i64 0, .slice none 0 0] 24 s395 rfl kk rfl (fun _ => by kernel_rfl) (fun b397 w398 hb399 k400 x401 s402 => ?_)
           apply F.nx
           have lo403 : w.heap.size ≤ b397 := Nl ((Sb c379 s395 nkk)).size (Nat.le_of_eq hb399)
           have sp410 : Sp A386 ((RemovePipe_v0 m341 ps345 x346).length) (some b397) := sp_new rd389 (by have := hb399; omega)
           have rd417 := Rk rd389 k400
           refine W.ss (v := .agg #[.int .i64 (RemovePipe_m0 m341 ps345 x346), .slice A386 ((RemovePipe_v0 m341 ps345 x346).length) d387]) (j := 0) (news := [.int .i64 (RemovePipe_m0 m341 ps345 x346), .slice A386 ((RemovePipe_v0 m341 ps345 x346).length) d387]) (cs' := #[.int .i64 (RemovePipe_m0 m341 ps345 x346), .slice A386 ((RemovePipe_v0 m341 ps345 x346).length) d387]) s402 rfl kk rfl rfl kk kk x401 kk kk (by simp) kk kk (.inr (Nl (s395).size (Nat.le_of_eq hb399))) (fun w418 g419 x420 s421 => ?_)
           have rd422 := rd_sepG rd417 g419 sp410
           refine Fa (.bool (RemovePipe_v1 m341 ps345 x346)) ?_
           apply F.es
           have x376 := Sk s421 x376 onn
           have c423 := (Sb c379 s421 nkk)
           have rd429 := Rk rd378 (SG.below s421)
           apply h26
           as_aux_lemma =>
            refine wk fun K27 h27 => ?_
            refine W.region_plain (row := none) [(0, false), (1, false), (2, true), (3, false), (4, false), (5, false), (6, true), (7, true), (8, false)] kk ?_
            have s430 := SG.self w418 none
            refine Fq (.agg #[.int .i64 m341, .slice A342 n343 c344]) (r_load2 rfl ek kk kk (sgS (blk_cell (j := 0) x376 kk) onn) (sgS (blk_cell (j := 1) x376 kk) onn)) ?_
            refine Fv (.int .i64 x346) ?_
            refine Fc [.agg #[.int .i64 m341, .slice A342 n343 c344], .int .i64 x346] (RemovePipe_spec m341 A342 n343 c344 ps345 x346 _ (Rk rd429 (SG.below s430)) (by omega) fm349) ?_
            rintro e w439 ⟨A431, d432, rfl, r433, b438⟩
            have s440 := SG.of_below s430 b438
            refine ⟨_, rfl, s440, ?_⟩
            apply F.nx
            have hl436 : (RemovePipe_v0 m341 ps345 x346).length = (RemovePipe_v0 m341 ps345 x346).length := rfl
            have hb441 := RemovePipe_len m341 ps345 x346
            refine Fv (.tuple #[.agg #[.int .i64 (RemovePipe_m0 m341 ps345 x346), .slice A431 ((RemovePipe_v0 m341 ps345 x346).length) d432], .bool (RemovePipe_v1 m341 ps345 x346)]) ?_
            refine Fq (.agg #[.int .i64 (RemovePipe_m0 m341 ps345 x346), .slice A431 ((RemovePipe_v0 m341 ps345 x346).length) d432]) (r_extract (vs := #[.agg #[.int .i64 (RemovePipe_m0 m341 ps345 x346), .slice A431 ((RemovePipe_v0 m341 ps345 x346).length) d432], .bool (RemovePipe_v1 m341 ps345 x346)]) rfl ek kk) ?_
            refine Fq (.bool (RemovePipe_v1 m341 ps345 x346)) (r_extract (vs := #[.agg #[.int .i64 (RemovePipe_m0 m341 ps345 x346), .slice A431 ((RemovePipe_v0 m341 ps345 x346).length) d432], .bool (RemovePipe_v1 m341 ps345 x346)]) rfl ek kk) ?_
            refine W.sn (fun b => .pointer (some ⟨b, 0, none⟩)) #[.int .i64 0, .slice none 0 0] 24 s440 rfl kk rfl (fun _ => by kernel_rfl) (fun b442 w443 hb444 k445 x446 s447 => ?_)
            apply F.nx
            have lo448 : w.heap.size ≤ b442 := Nl ((Sb c423 s440 nkk)).size (Nat.le_of_eq hb444)
            have sp456 : Sp A431 ((RemovePipe_v0 m341 ps345 x346).length) (some b442) := sp_new r433 (by have := hb444; omega)
            have rd464 := Rk r433 k445
            refine W.ss (v := .agg #[.int .i64 (RemovePipe_m0 m341 ps345 x346), .slice A431 ((RemovePipe_v0 m341 ps345 x346).length) d432]) (j := 0) (news := [.int .i64 (RemovePipe_m0 m341 ps345 x346), .slice A431 ((RemovePipe_v0 m341 ps345 x346).length) d432]) (cs' := #[.int .i64 (RemovePipe_m0 m341 ps345 x346), .slice A431 ((RemovePipe_v0 m341 ps345 x346).length) d432]) s447 rfl kk rfl rfl kk kk x446 kk kk (by simp) kk kk (.inr (Nl (s440).size (Nat.le_of_eq hb444))) (fun w465 g466 x467 s468 => ?_)
            have rd469 := rd_sepG rd464 g466 sp456
            refine Fa (.bool (RemovePipe_v1 m341 ps345 x346)) ?_
            apply F.es
            have x420 := Sk s468 x420 onn
            have c470 := (Sb c423 s468 nkk)
            have rd477 := Rk rd422 (SG.below s468)
            apply h27
            refine wk fun K28 h28 => ?_
            refine W.region_plain (row := none) [(0, false), (1, false), (2, false), (3, false), (4, false), (5, false), (6, true), (7, false), (8, false)] kk ?_
            have s478 := SG.self w465 none
            refine Fv (.bool (RemovePipe_v1 m341 ps345 x346)) ?_
            refine Fv (.bool (RemovePipe_v1 m341 ps345 x346)) ?_
            refine Fq (.bool true) (r_eqlB (m := (RemovePipe_v1 m341 ps345 x346)) (n := (RemovePipe_v1 m341 ps345 x346)) rfl ek ek kk (beq_iff_eq.2 rfl)) ?_
            refine Fv (.bool true) ?_
            refine Fq (.agg #[.int .i64 (RemovePipe_m0 m341 ps345 x346), .slice A386 ((RemovePipe_v0 m341 ps345 x346).length) d387]) (r_load2 rfl ek kk kk (sgS (blk_cell (j := 0) x420 kk) onn) (sgS (blk_cell (j := 1) x420 kk) onn)) ?_
            refine Fq (.agg #[.int .i64 (RemovePipe_m0 m341 ps345 x346), .slice A431 ((RemovePipe_v0 m341 ps345 x346).length) d432]) (r_load2 rfl ek kk kk (sgS (blk_cell (j := 0) x467 kk) onn) (sgS (blk_cell (j := 1) x467 kk) onn)) ?_
            refine Fc [.agg #[.int .i64 (RemovePipe_m0 m341 ps345 x346), .slice A386 ((RemovePipe_v0 m341 ps345 x346).length) d387], .agg #[.int .i64 (RemovePipe_m0 m341 ps345 x346), .slice A431 ((RemovePipe_v0 m341 ps345 x346).length) d432]] (vNetwork_same (RemovePipe_m0 m341 ps345 x346) A386 A431 ((RemovePipe_v0 m341 ps345 x346).length) d387 d432 (RemovePipe_v0 m341 ps345 x346) _ (Rk rd477 (SG.below s478)) (Rk rd469 (SG.below s478)) (by omega)) ?_
            rintro e w480 ⟨rfl, b479⟩
            have s481 := SG.of_below s478 b479
            refine ⟨_, rfl, s481, ?_⟩
            apply F.nx
            refine Fq (.bool true) (r_pick (b := true) rfl ek ek) ?_
            refine Fa (.bool true) ?_
            apply F.es
            have c482 := (Sb c470 s481 nkk)
            apply h28
            as_aux_lemma =>
             refine wp_ret ?_
             try simp only [Exit.then]
             refine ret1 (v := .bool true) rfl kk ?_
             exact ⟨rfl, c482⟩
        rw [q269]
        refine wp_cond_false ek ?_
        apply wp_skip
        apply h20
        refine wk fun K29 h29 => ?_
        refine W.region_plain (row := none) [(0, false), (1, true), (2, false), (3, false), (4, false), (5, true), (6, true), (7, false)] kk ?_
        have s491 := SG.self w263 none
        refine Fv (.slice A n c) ?_
        refine Fc [.slice A n c] (DrawRemovePipe_any A n c zs _ (Rk hcode (Sb c265 s491 nkk)) hz (by have h9 := of_decide_eq_false q5; omega)) ?_
        rintro e w504 ⟨m492, A493, n494, c495, ps496, x497, rfl, ⟨rd499, fm500⟩, hsm498, b503⟩
        have s505 := SG.of_below s491 b503
        refine ⟨_, rfl, s505, ?_⟩
        apply F.nx
        have hl501 := rd_pipes_len rd499
        have hsm498n := hsm498.2.1
        refine Fv (.tuple #[.agg #[.int .i64 m492, .slice A493 n494 c495], .int .i64 x497]) ?_
        refine Fq (.agg #[.int .i64 m492, .slice A493 n494 c495]) (r_extract (vs := #[.agg #[.int .i64 m492, .slice A493 n494 c495], .int .i64 x497]) rfl ek kk) ?_
        refine Fq (.int .i64 x497) (r_extract (vs := #[.agg #[.int .i64 m492, .slice A493 n494 c495], .int .i64 x497]) rfl ek kk) ?_
        refine W.sn (fun b => .pointer (some ⟨b, 0, none⟩)) #[.int .i64 0, .slice none 0 0] 24 s505 rfl kk rfl (fun _ => by kernel_rfl) (fun b506 w507 hb508 k509 x510 s511 => ?_)
        apply F.nx
        have lo512 : w.heap.size ≤ b506 := Nl ((Sb c265 s505 nkk)).size (Nat.le_of_eq hb508)
        have sp516 : Sp A493 n494 (some b506) := sp_new rd499 (by have := hb508; omega)
        have rd521 := Rk rd499 k509
        refine W.ss (v := .agg #[.int .i64 m492, .slice A493 n494 c495]) (j := 0) (news := [.int .i64 m492, .slice A493 n494 c495]) (cs' := #[.int .i64 m492, .slice A493 n494 c495]) s511 rfl kk rfl rfl kk kk x510 kk kk (by simp) kk kk (.inr (Nl (s505).size (Nat.le_of_eq hb508))) (fun w522 g523 x524 s525 => ?_)
        have rd526 := rd_sepG rd521 g523 sp516
        refine Fa (.int .i64 x497) ?_
        apply F.es
        have c527 := (Sb c265 s525 nkk)
        apply h29
        refine wk fun K30 h30 => ?_
        refine W.region_plain (row := none) [(0, false), (1, false), (2, true), (3, false), (4, false), (5, false), (6, true), (7, true), (8, false)] kk ?_
        have s531 := SG.self w522 none
        refine Fq (.agg #[.int .i64 m492, .slice A493 n494 c495]) (r_load2 rfl ek kk kk (sgS (blk_cell (j := 0) x524 kk) onn) (sgS (blk_cell (j := 1) x524 kk) onn)) ?_
        refine Fv (.int .i64 x497) ?_
        refine Fc [.agg #[.int .i64 m492, .slice A493 n494 c495], .int .i64 x497] (RemovePipe_impl m492 A493 n494 c495 ps496 x497 _ (Rk rd526 (SG.below s531)) (by omega) fm500) ?_
        rintro e w540 ⟨A532, d533, rfl, r534, b539⟩
        have s541 := SG.of_below s531 b539
        refine ⟨_, rfl, s541, ?_⟩
        apply F.nx
        have rd535 := own_rd r534
        have hl537 : (RemovePipe_v0 m492 ps496 x497).length = (RemovePipe_v0 m492 ps496 x497).length := rfl
        have hb542 := RemovePipe_len m492 ps496 x497
        refine Fv (.tuple #[.agg #[.int .i64 (RemovePipe_m0 m492 ps496 x497), .slice A532 ((RemovePipe_v0 m492 ps496 x497).length) d533], .bool (RemovePipe_v1 m492 ps496 x497)]) ?_
        refine Fq (.agg #[.int .i64 (RemovePipe_m0 m492 ps496 x497), .slice A532 ((RemovePipe_v0 m492 ps496 x497).length) d533]) (r_extract (vs := #[.agg #[.int .i64 (RemovePipe_m0 m492 ps496 x497), .slice A532 ((RemovePipe_v0 m492 ps496 x497).length) d533], .bool (RemovePipe_v1 m492 ps496 x497)]) rfl ek kk) ?_
        refine Fq (.bool (RemovePipe_v1 m492 ps496 x497)) (r_extract (vs := #[.agg #[.int .i64 (RemovePipe_m0 m492 ps496 x497), .slice A532 ((RemovePipe_v0 m492 ps496 x497).length) d533], .bool (RemovePipe_v1 m492 ps496 x497)]) rfl ek kk) ?_
        refine W.sn (fun b => .pointer (some ⟨b, 0, none⟩)) #[.int .i64 0, .slice none 0 0] 24 s541 rfl kk rfl (fun _ => by kernel_rfl) (fun b543 w544 hb545 k546 x547 s548 => ?_)
        apply F.nx
        have lo549 : w.heap.size ≤ b543 := Nl ((Sb c527 s541 nkk)).size (Nat.le_of_eq hb545)
        have sp554 : Sp A532 ((RemovePipe_v0 m492 ps496 x497).length) (some b543) := sp_new rd535 (by have := hb545; omega)
        have rd560 := Rk rd535 k546
        refine W.ss (v := .agg #[.int .i64 (RemovePipe_m0 m492 ps496 x497), .slice A532 ((RemovePipe_v0 m492 ps496 x497).length) d533]) (j := 0) (news := [.int .i64 (RemovePipe_m0 m492 ps496 x497), .slice A532 ((RemovePipe_v0 m492 ps496 x497).length) d533]) (cs' := #[.int .i64 (RemovePipe_m0 m492 ps496 x497), .slice A532 ((RemovePipe_v0 m492 ps496 x497).length) d533]) s548 rfl kk rfl rfl kk kk x547 kk kk (by simp) kk kk (.inr (Nl (s541).size (Nat.le_of_eq hb545))) (fun w561 g562 x563 s564 => ?_)
        have rd565 := rd_sepG rd560 g562 sp554
        refine Fa (.bool (RemovePipe_v1 m492 ps496 x497)) ?_
        apply F.es
        have x524 := Sk s564 x524 onn
        have c566 := (Sb c527 s564 nkk)
        have rd570 := Rk rd526 (SG.below s564)
        apply h30
        as_aux_lemma =>
         refine wk fun K31 h31 => ?_
         refine W.region_plain (row := none) [(0, false), (1, false), (2, true), (3, false), (4, false), (5, false), (6, true), (7, true), (8, false)] kk ?_
         have s571 := SG.self w561 none
         refine Fq (.agg #[.int .i64 m492, .slice A493 n494 c495]) (r_load2 rfl ek kk kk (sgS (blk_cell (j := 0) x524 kk) onn) (sgS (blk_cell (j := 1) x524 kk) onn)) ?_
         refine Fv (.int .i64 x497) ?_
         refine Fc [.agg #[.int .i64 m492, .slice A493 n494 c495], .int .i64 x497] (RemovePipe_spec m492 A493 n494 c495 ps496 x497 _ (Rk rd570 (SG.below s571)) (by omega) fm500) ?_
         rintro e w580 ⟨A572, d573, rfl, r574, b579⟩
         have s581 := SG.of_below s571 b579
         refine ⟨_, rfl, s581, ?_⟩
         apply F.nx
         have hl577 : (RemovePipe_v0 m492 ps496 x497).length = (RemovePipe_v0 m492 ps496 x497).length := rfl
         have hb582 := RemovePipe_len m492 ps496 x497
         refine Fv (.tuple #[.agg #[.int .i64 (RemovePipe_m0 m492 ps496 x497), .slice A572 ((RemovePipe_v0 m492 ps496 x497).length) d573], .bool (RemovePipe_v1 m492 ps496 x497)]) ?_
         refine Fq (.agg #[.int .i64 (RemovePipe_m0 m492 ps496 x497), .slice A572 ((RemovePipe_v0 m492 ps496 x497).length) d573]) (r_extract (vs := #[.agg #[.int .i64 (RemovePipe_m0 m492 ps496 x497), .slice A572 ((RemovePipe_v0 m492 ps496 x497).length) d573], .bool (RemovePipe_v1 m492 ps496 x497)]) rfl ek kk) ?_
         refine Fq (.bool (RemovePipe_v1 m492 ps496 x497)) (r_extract (vs := #[.agg #[.int .i64 (RemovePipe_m0 m492 ps496 x497), .slice A572 ((RemovePipe_v0 m492 ps496 x497).length) d573], .bool (RemovePipe_v1 m492 ps496 x497)]) rfl ek kk) ?_
         refine W.sn (fun b => .pointer (some ⟨b, 0, none⟩)) #[.int .i64 0, .slice none 0 0] 24 s581 rfl kk rfl (fun _ => by kernel_rfl) (fun b583 w584 hb585 k586 x587 s588 => ?_)
         apply F.nx
         have lo589 : w.heap.size ≤ b583 := Nl ((Sb c566 s581 nkk)).size (Nat.le_of_eq hb585)
         have sp595 : Sp A572 ((RemovePipe_v0 m492 ps496 x497).length) (some b583) := sp_new r574 (by have := hb585; omega)
         have rd602 := Rk r574 k586
         refine W.ss (v := .agg #[.int .i64 (RemovePipe_m0 m492 ps496 x497), .slice A572 ((RemovePipe_v0 m492 ps496 x497).length) d573]) (j := 0) (news := [.int .i64 (RemovePipe_m0 m492 ps496 x497), .slice A572 ((RemovePipe_v0 m492 ps496 x497).length) d573]) (cs' := #[.int .i64 (RemovePipe_m0 m492 ps496 x497), .slice A572 ((RemovePipe_v0 m492 ps496 x497).length) d573]) s588 rfl kk rfl rfl kk kk x587 kk kk (by simp) kk kk (.inr (Nl (s581).size (Nat.le_of_eq hb585))) (fun w603 g604 x605 s606 => ?_)
         have rd607 := rd_sepG rd602 g604 sp595
         refine Fa (.bool (RemovePipe_v1 m492 ps496 x497)) ?_
         apply F.es
         have x563 := Sk s606 x563 onn
         have c608 := (Sb c566 s606 nkk)
         have rd613 := Rk rd565 (SG.below s606)
         apply h31
         refine wk fun K32 h32 => ?_
         refine W.region_plain (row := none) [(0, false), (1, false), (2, false), (3, false), (4, false), (5, false), (6, true), (7, false), (8, false)] kk ?_
         have s614 := SG.self w603 none
         refine Fv (.bool (RemovePipe_v1 m492 ps496 x497)) ?_
         refine Fv (.bool (RemovePipe_v1 m492 ps496 x497)) ?_
         refine Fq (.bool true) (r_eqlB (m := (RemovePipe_v1 m492 ps496 x497)) (n := (RemovePipe_v1 m492 ps496 x497)) rfl ek ek kk (beq_iff_eq.2 rfl)) ?_
         refine Fv (.bool true) ?_
         refine Fq (.agg #[.int .i64 (RemovePipe_m0 m492 ps496 x497), .slice A532 ((RemovePipe_v0 m492 ps496 x497).length) d533]) (r_load2 rfl ek kk kk (sgS (blk_cell (j := 0) x563 kk) onn) (sgS (blk_cell (j := 1) x563 kk) onn)) ?_
         refine Fq (.agg #[.int .i64 (RemovePipe_m0 m492 ps496 x497), .slice A572 ((RemovePipe_v0 m492 ps496 x497).length) d573]) (r_load2 rfl ek kk kk (sgS (blk_cell (j := 0) x605 kk) onn) (sgS (blk_cell (j := 1) x605 kk) onn)) ?_
         refine Fc [.agg #[.int .i64 (RemovePipe_m0 m492 ps496 x497), .slice A532 ((RemovePipe_v0 m492 ps496 x497).length) d533], .agg #[.int .i64 (RemovePipe_m0 m492 ps496 x497), .slice A572 ((RemovePipe_v0 m492 ps496 x497).length) d573]] (vNetwork_same (RemovePipe_m0 m492 ps496 x497) A532 A572 ((RemovePipe_v0 m492 ps496 x497).length) d533 d573 (RemovePipe_v0 m492 ps496 x497) _ (Rk rd613 (SG.below s614)) (Rk rd607 (SG.below s614)) (by omega)) ?_
         rintro e w616 ⟨rfl, b615⟩
         have s617 := SG.of_below s614 b615
         refine ⟨_, rfl, s617, ?_⟩
         apply F.nx
         refine Fq (.bool true) (r_pick (b := true) rfl ek ek) ?_
         refine Fa (.bool true) ?_
         apply F.es
         have c618 := (Sb c608 s617 nkk)
         apply h32
         as_aux_lemma =>
          refine wp_ret ?_
          try simp only [Exit.then]
          refine ret1 (v := .bool true) rfl kk ?_
          exact ⟨rfl, c618⟩
     intro K33 h33
     refine W.region_plain (row := none) [(0, false), (1, false), (2, false), (3, false), (4, false), (5, false), (6, true), (7, false), (8, false), (9, false), (10, false), (11, false), (12, false), (13, false), (14, false), (15, false), (16, false), (17, false), (18, false), (19, false), (20, false)] kk ?_
     have s625 := SG.self w143 none
     refine Fv (.bool (ParseNetwork_v1 dt9)) ?_
     refine Fv (.bool (ParseNetwork_v1 dt9)) ?_
     refine Fq (.bool false) (r_neqB (m := (ParseNetwork_v1 dt9)) (n := (ParseNetwork_v1 dt9)) rfl ek ek kk (by rw [show ((ParseNetwork_v1 dt9) == (ParseNetwork_v1 dt9)) = true from beq_iff_eq.2 rfl]; try rfl)) ?_
     refine Fv (.bool false) ?_
     refine Fq (.agg #[.int .i64 (ParseNetwork_v0m dt9), .slice A88 ((ParseNetwork_v0 dt9).length) d89]) (r_load2 rfl ek kk kk (sgS (blk_cell (j := 0) x110 kk) onn) (sgS (blk_cell (j := 1) x110 kk) onn)) ?_
     refine Fq (.agg #[.int .i64 (ParseNetwork_v0m dt9), .slice A121 ((ParseNetwork_v0 dt9).length) d122]) (r_load2 rfl ek kk kk (sgS (blk_cell (j := 0) x145 kk) onn) (sgS (blk_cell (j := 1) x145 kk) onn)) ?_
     refine Fc [.agg #[.int .i64 (ParseNetwork_v0m dt9), .slice A88 ((ParseNetwork_v0 dt9).length) d89], .agg #[.int .i64 (ParseNetwork_v0m dt9), .slice A121 ((ParseNetwork_v0 dt9).length) d122]] (vNetwork_same (ParseNetwork_v0m dt9) A88 A121 ((ParseNetwork_v0 dt9).length) d89 d122 (ParseNetwork_v0 dt9) _ (Rk rd149 (SG.below s625)) (Rk rd147 (SG.below s625)) (by omega)) ?_
     rintro e w627 ⟨rfl, b626⟩
     have s628 := SG.of_below s625 b626
     refine ⟨_, rfl, s628, ?_⟩
     apply F.nx
     refine Fq (.bool false) (r_not (b := true) rfl ek rfl) ?_
     refine Fq (.bool false) (r_pick (b := false) rfl ek ek) ?_
     refine Fv (.bool false) ?_
     refine Fv (.bool (ParseNetwork_v1 dt9)) ?_
     refine Fv (.bool (ParseNetwork_v1 dt9)) ?_
     rcases Bool.eq_false_or_eq_true (ParseNetwork_v1 dt9) with q629 | q629
     ·rw [q629]
      refine Fv (.bool (goodN (ParseNetwork_v0m dt9) (ParseNetwork_v0 dt9))) ?_
      have q630 : (goodN (ParseNetwork_v0m dt9) (ParseNetwork_v0 dt9)) = true := (parse_back q629).1
      rw [q630]
      refine Fq (.bool false) (r_not (b := true) rfl ek rfl) ?_
      refine Fv (.bool false) ?_
      refine Fv (.string (NetworkText_v0 (ParseNetwork_v0m dt9) (ParseNetwork_v0 dt9))) ?_
      refine Fv (.string dt9) ?_
      refine Fq (.bool false) (r_neqS (s := (NetworkText_v0 (ParseNetwork_v0m dt9) (ParseNetwork_v0 dt9))) (r := dt9) rfl ek ek (by rw [decide_eq_true (parse_back q629).2]; try rfl)) ?_
      refine Fq (.bool false) (r_pick (b := false) rfl ek ek) ?_
      refine Fq (.bool false) (r_pick (b := true) rfl ek ek) ?_
      refine Fq (.bool false) (r_pick (b := false) rfl ek ek) ?_
      apply F.es
      have c631 := (Sb c148 s628 nkk)
      exact h33 _ _ _ ⟨Kn.of, rfl, c631⟩
     rw [q629]
     refine Fs s628 ?_
     refine Fs s628 ?_
     refine Fs s628 ?_
     refine Fs s628 ?_
     refine Fs s628 ?_
     refine Fs s628 ?_
     refine Fs s628 ?_
     refine Fq (.bool false) (r_pick (b := false) rfl ek ek) ?_
     refine Fq (.bool false) (r_pick (b := false) rfl ek ek) ?_
     apply F.es
     have c634 := (Sb c148 s628 nkk)
     exact h33 _ _ _ ⟨Kn.of, rfl, c634⟩
   intro K34 h34
   refine W.region_plain (row := none) [(0, false), (1, false), (2, false), (3, false), (4, false), (5, false), (6, false), (7, false), (8, false), (9, false), (10, true), (11, false), (12, false), (13, false), (14, false), (15, false), (16, false), (17, false), (18, false), (19, false), (20, false), (21, false), (22, true), (23, false), (24, false), (25, false), (26, false)] kk ?_
   have s637 := SG.self w76 none
   refine Fv (.string (NetworkText_v0 m9 ps13)) ?_
   refine Fv (.string (NetworkText_v0 m9 ps13)) ?_
   refine Fq (.bool false) (r_neqS (s := (NetworkText_v0 m9 ps13)) (r := (NetworkText_v0 m9 ps13)) rfl ek ek (by rw [decide_eq_true rfl]; try rfl)) ?_
   refine Fv (.bool false) ?_
   refine Fv (.bool (goodN m9 ps13)) ?_
   refine Fv (.bool (goodN m9 ps13)) ?_
   refine Fq (.bool false) (r_neqB (m := (goodN m9 ps13)) (n := (goodN m9 ps13)) rfl ek ek kk (by rw [show ((goodN m9 ps13) == (goodN m9 ps13)) = true from beq_iff_eq.2 rfl]; try rfl)) ?_
   refine Fq (.bool false) (r_pick (b := false) rfl ek ek) ?_
   refine Fv (.bool false) ?_
   refine Fq (.agg #[.int .i64 m9, .slice A10 n11 c12]) (r_load2 rfl ek kk kk (sgS (blk_cell (j := 0) x34 kk) onn) (sgS (blk_cell (j := 1) x34 kk) onn)) ?_
   refine Fc [.agg #[.int .i64 m9, .slice A10 n11 c12]] (IsValid_any m9 A10 n11 c12 ps13 _ (Rk rd79 (SG.below s637)) (by omega)) ?_
   rintro e w639 ⟨rfl, b638⟩
   have s640 := SG.of_below s637 b638
   refine ⟨_, rfl, s640, ?_⟩
   apply F.nx
   rcases Bool.eq_false_or_eq_true (goodN m9 ps13) with q641 | q641
   ·rw [q641]
    refine Fv (.bool true) ?_
    refine Fq (.bool false) (r_neqB (m := true) (n := true) rfl ek ek kk rfl) ?_
    refine Fq (.bool false) (r_pick (b := false) rfl ek ek) ?_
    refine Fv (.bool false) ?_
    refine Fv (.bool true) ?_
    refine Fv (.bool true) ?_
    refine Fv (.bool (ParseNetwork_v1 (NetworkText_v0 m9 ps13))) ?_
    have q642 : (ParseNetwork_v1 (NetworkText_v0 m9 ps13)) = true := (text_back q641).1
    rw [q642]
    refine Fq (.bool false) (r_not (b := true) rfl ek rfl) ?_
    refine Fv (.bool false) ?_
    refine Fq (.agg #[.int .i64 (ParseNetwork_v0m (NetworkText_v0 m9 ps13)), .slice A45 ((ParseNetwork_v0 (NetworkText_v0 m9 ps13)).length) d46]) (r_load2 rfl ek kk kk (sgS (blk_cell (j := 0) x69 kk) onn) (sgS (blk_cell (j := 1) x69 kk) onn)) ?_
    refine Fq (.agg #[.int .i64 m9, .slice A10 n11 c12]) (r_load2 rfl ek kk kk (sgS (blk_cell (j := 0) x34 kk) onn) (sgS (blk_cell (j := 1) x34 kk) onn)) ?_
    refine Fc [.agg #[.int .i64 (ParseNetwork_v0m (NetworkText_v0 m9 ps13)), .slice A45 ((ParseNetwork_v0 (NetworkText_v0 m9 ps13)).length) d46], .agg #[.int .i64 m9, .slice A10 n11 c12]] (vNetwork_eq m9 (ParseNetwork_v0m (NetworkText_v0 m9 ps13)) A45 A10 n11 ((ParseNetwork_v0 (NetworkText_v0 m9 ps13)).length) d46 c12 ps13 (ParseNetwork_v0 (NetworkText_v0 m9 ps13)) _ (text_back q641).2.1 (text_back q641).2.2 (Rk rd80 (SG.below s640)) (Rk rd79 (SG.below s640)) (by omega)) ?_
    rintro e w644 ⟨rfl, b643⟩
    have s645 := SG.of_below s640 b643
    refine ⟨_, rfl, s645, ?_⟩
    apply F.nx
    refine Fq (.bool false) (r_not (b := true) rfl ek rfl) ?_
    refine Fq (.bool false) (r_pick (b := false) rfl ek ek) ?_
    refine Fq (.bool false) (r_pick (b := true) rfl ek ek) ?_
    refine Fq (.bool false) (r_pick (b := false) rfl ek ek) ?_
    apply F.es
    have c646 := (Sb c78 s645 nkk)
    exact h34 _ _ _ ⟨Kn.of, rfl, c646⟩
   rw [q641]
   refine Fv (.bool false) ?_
   refine Fq (.bool false) (r_neqB (m := false) (n := false) rfl ek ek kk rfl) ?_
   refine Fq (.bool false) (r_pick (b := false) rfl ek ek) ?_
   refine Fv (.bool false) ?_
   refine Fv (.bool false) ?_
   refine Fv (.bool false) ?_
   refine Fs s640 ?_
   refine Fs s640 ?_
   refine Fs s640 ?_
   refine Fs s640 ?_
   refine Fs s640 ?_
   refine Fs s640 ?_
   refine Fs s640 ?_
   refine Fs s640 ?_
   refine Fq (.bool false) (r_pick (b := false) rfl ek ek) ?_
   refine Fq (.bool false) (r_pick (b := false) rfl ek ek) ?_
   apply F.es
   have c649 := (Sb c78 s640 nkk)
   exact h34 _ _ _ ⟨Kn.of, rfl, c649⟩
theorem byte_of {n : Int} (h : (Lit.int .u8 n).wf = true) : 0 ≤ n ∧ n < 256 := by
  have h2 : (decide ((0 : Int) ≤ n) && decide (n ≤ 255)) = true := h
  simp only [Bool.and_eq_true, decide_eq_true_eq] at h2
  omega
theorem w_FnNetworks (x0 : Option Addr) (n0 p0 : Nat) (a0 : List Int) (w : World) (H0 : a0.length = n0 ∧ Rd w 1 x0 n0 (a0.map (Value.int .u8)) ∧ n0 ≤ maxLen ∧ ∀ n ∈ a0, (Lit.int .u8 n).wf = true) (htab : Lib.TabIs Tryd.prog w "internal/strconv.uint64pow10" .u64 Lib.pow10Tab) (hmax : MaxIs w) :
    Calls Tryd.prog 4 #[.slice x0 n0 p0] w fun e w' => e = .returned (.bool true) ∧ Below w.heap.size w w' :=
  wi_FnNetworks x0 n0 p0 a0 w H0.2.1 (fun z hz => byte_of (H0.2.2.2 z hz)) (by have := H0.2.2.1; unfold maxLen at this; omega) htab hmax
end Go.Proofs.YtdlcldaogcbnlaaDoor
