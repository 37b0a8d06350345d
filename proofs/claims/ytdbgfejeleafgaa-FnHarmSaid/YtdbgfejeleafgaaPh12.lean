/- What the texts behind it build on; conditions: none. -/
import Derived.Test.YtdbgfejeleafgaaPh11
import Derived.Test.YtdbgfejeleafgaaRows
import Derived.ProofKit
import Derived.OpenShut
import Derived.Lib.SmallJoins
import Derived.Deep.Slices
import Derived.Deep.Fields
namespace Go.Proofs.Ytdbgfejeleafgaa
open Go.RowKit
set_option linter.unusedVariables false
set_option linter.unusedSimpArgs false
set_option maxRecDepth 100000 in
set_option maxHeartbeats 8000000 in
theorem wi_FnHarm (A : Option Addr) (n c : Nat) (zs : List Int) (w : World) (hcode : Rd w 1 A n (bytesV zs)) (hz : ∀ z ∈ zs, 0 ≤ z ∧ z < 256) (hn : n ≤ 9223372036854775807) :
    Calls Try.prog 7 #[.slice A n c] w fun e w' => e = .returned (.bool true) ∧ Below w.heap.size w w' := by
 have hl := rd_bytes_len hcode
 go_enter Try.func7, Try.ntmps7
 refine F.begin 242 [(0, .slice A n c)] (fun U0 => ?_)
 refine wk fun K1 h1 => ?_
 refine Rq 1 ?_
 refine Fa (.bool false) ?_
 apply F.es
 apply h1
 refine wk fun K2 h2 => ?_
 refine wk fun K3 h3 => ?_
 refine W.region_plain (row := none) [(0, false), (1, true)] kk ?_
 have s1 := SG.self w none
 refine Fv (.slice A n c) ?_
 refine Fc [.slice A n c] (vBig_any A n c zs _ (Rk hcode (Sb (Below.refl _ _) s1 nkk)) hz hn) ?_
 rintro e w3 ⟨rfl, b2⟩
 have s4 := SG.of_below s1 b2
 refine ⟨_, rfl, s4, ?_⟩
 apply F.nx
 rcases Bool.eq_false_or_eq_true (decide (65536 < n)) with q5 | q5
 ·rw [q5]
  apply F.es
  have c6 := (Sb (Below.refl _ _) s4 nkk)
  apply h3
  refine wp_cond_true ek ?_
  refine wk fun K4 h4 => ?_
  refine Rq 1 ?_
  refine Fa (.bool true) ?_
  apply F.es
  apply h4
  refine wp_ret ?_
  try simp only [Exit.then]
  refine ret1 (v := .bool true) rfl kk ?_
  exact ⟨rfl, c6⟩
 rw [q5]
 apply F.es
 have c7 := (Sb (Below.refl _ _) s4 nkk)
 apply h3
 refine wp_cond_false ek ?_
 apply wp_skip
 apply h2
 refine wk fun K5 h5 => ?_
 refine W.region_plain (row := none) [(0, false), (1, true), (2, false), (3, false), (4, false), (5, false), (6, false), (7, false), (8, false), (9, true), (10, true), (11, false), (12, false), (13, false), (14, false), (15, false)] kk ?_
 have s8 := SG.self w3 none
 refine Fv (.slice A n c) ?_
 have z9 := ((Sb c7 s8 nkk)).size
 refine Fc [.slice A n c] (DrawHarmOf_any A n c zs _ (Rk hcode (Sb c7 s8 nkk)) hz (by have h9 := of_decide_eq_false q5; omega)) ?_
 rintro e w54 ⟨m10, A11, n12, c13, dl14, A21, n22, c23, dl24, x31, x32, A33, n34, c35, dl36, A43, n44, c45, dl46, rfl, ⟨⟨rd15, fm16, fr20⟩, hsm17⟩, ⟨⟨rd25, fm26, fr30⟩, hsm27⟩, ⟨⟨rd37, fm38, fr42⟩, hsm39⟩, ⟨⟨rd47, fm48, fr52⟩, hsm49⟩, b53⟩
 have s55 := SG.of_below s8 b53
 refine ⟨_, rfl, s55, ?_⟩
 apply F.nx
 have hl18 := rd_pipes_len rd15
 have hsm17m := hsm17.1
 have hsm17n := hsm17.2.1
 have hl28 := rd_valves_len rd25
 have hl40 := rd_ints_len rd37
 have hl50 := rd_ints_len rd47
 refine Fv (.tuple #[.agg #[.int .i64 m10, .slice A11 n12 c13], .slice A21 n22 c23, .int .i64 x31, .int .i64 x32, .slice A33 n34 c35, .slice A43 n44 c45]) ?_
 refine Fq (.agg #[.int .i64 m10, .slice A11 n12 c13]) (r_extract (vs := #[.agg #[.int .i64 m10, .slice A11 n12 c13], .slice A21 n22 c23, .int .i64 x31, .int .i64 x32, .slice A33 n34 c35, .slice A43 n44 c45]) rfl ek kk) ?_
 refine Fq (.slice A21 n22 c23) (r_extract (vs := #[.agg #[.int .i64 m10, .slice A11 n12 c13], .slice A21 n22 c23, .int .i64 x31, .int .i64 x32, .slice A33 n34 c35, .slice A43 n44 c45]) rfl ek kk) ?_
 refine Fq (.int .i64 x31) (r_extract (vs := #[.agg #[.int .i64 m10, .slice A11 n12 c13], .slice A21 n22 c23, .int .i64 x31, .int .i64 x32, .slice A33 n34 c35, .slice A43 n44 c45]) rfl ek kk) ?_
 refine Fq (.int .i64 x32) (r_extract (vs := #[.agg #[.int .i64 m10, .slice A11 n12 c13], .slice A21 n22 c23, .int .i64 x31, .int .i64 x32, .slice A33 n34 c35, .slice A43 n44 c45]) rfl ek kk) ?_
 refine Fq (.slice A33 n34 c35) (r_extract (vs := #[.agg #[.int .i64 m10, .slice A11 n12 c13], .slice A21 n22 c23, .int .i64 x31, .int .i64 x32, .slice A33 n34 c35, .slice A43 n44 c45]) rfl ek kk) ?_
 refine Fq (.slice A43 n44 c45) (r_extract (vs := #[.agg #[.int .i64 m10, .slice A11 n12 c13], .slice A21 n22 c23, .int .i64 x31, .int .i64 x32, .slice A33 n34 c35, .slice A43 n44 c45]) rfl ek kk) ?_
 refine W.sn (fun b => .pointer (some ⟨b, 0, none⟩)) #[.int .i64 0, .slice none 0 0] 26 s55 rfl kk rfl (fun _ => by kernel_rfl) (fun b56 w57 hb58 k59 x60 s61 => ?_)
 apply F.nx
 have lo62 : w.heap.size ≤ b56 := Nl ((Sb c7 s55 nkk)).size (Nat.le_of_eq hb58)
 have sp63 : Sp A11 n12 (some b56) := sp_new rd15 (by have := hb58; omega)
 have sp64 : Sp A21 n22 (some b56) := sp_new rd25 (by have := hb58; omega)
 have sp65 : Sp A33 n34 (some b56) := sp_new rd37 (by have := hb58; omega)
 have sp66 : Sp A43 n44 (some b56) := sp_new rd47 (by have := hb58; omega)
 have rd67 := Rk rd15 k59
 have rd68 := Rk rd25 k59
 have rd69 := Rk rd37 k59
 have rd70 := Rk rd47 k59
 refine W.ss (v := .agg #[.int .i64 m10, .slice A11 n12 c13]) (j := 0) (news := [.int .i64 m10, .slice A11 n12 c13]) (cs' := #[.int .i64 m10, .slice A11 n12 c13]) s61 rfl kk rfl rfl kk kk x60 kk kk (by simp) kk kk (.inr (Nl (s55).size (Nat.le_of_eq hb58))) (fun w71 g72 x73 s74 => ?_)
 have rd75 := rd_sepG rd67 g72 sp63
 have rd76 := rd_sepG rd68 g72 sp64
 have rd77 := rd_sepG rd69 g72 sp65
 have rd78 := rd_sepG rd70 g72 sp66
 refine Fa (.slice A21 n22 c23) ?_
 refine Fa (.int .i64 x31) ?_
 refine Fa (.int .i64 x32) ?_
 refine Fa (.slice A33 n34 c35) ?_
 refine Fa (.slice A43 n44 c45) ?_
 apply F.es
 have c79 := (Sb c7 s74 nkk)
 apply h5
 as_aux_lemma =>
  refine wk fun K6 h6 => ?_
  refine W.region_plain (row := none) [(0, false), (1, false), (2, false), (3, false), (4, false), (5, false), (6, true), (7, false), (8, false), (9, false), (10, false), (11, false)] kk ?_
  have s80 := SG.self w71 none
  refine Fq (.agg #[.int .i64 m10, .slice A11 n12 c13]) (r_load2 rfl ek kk kk (sgS (blk_cell (j := 0) x73 kk) onn) (sgS (blk_cell (j := 1) x73 kk) onn)) ?_
  refine Fv (.slice A21 n22 c23) ?_
  refine Fv (.int .i64 x31) ?_
  refine Fv (.int .i64 x32) ?_
  refine Fv (.slice A33 n34 c35) ?_
  refine Fv (.slice A43 n44 c45) ?_
  refine Fc [.agg #[.int .i64 m10, .slice A11 n12 c13], .slice A21 n22 c23, .int .i64 x31, .int .i64 x32, .slice A33 n34 c35, .slice A43 n44 c45] (HarmOf_impl m10 A11 n12 c13 dl14 A21 n22 c23 dl24 x31 x32 A33 n34 c35 dl36 A43 n44 c45 dl46 w71 (Rk rd75 (SG.below s80)) (Rk rd76 (SG.below s80)) (Rk rd77 (SG.below s80)) (Rk rd78 (SG.below s80)) (by omega) (by omega) (by omega) (by omega) fm16 fm26 fm38 fm48) ?_
  rintro e w82 ⟨rfl, b81⟩
  have s83 := SG.of_below s80 b81
  refine ⟨_, rfl, s83, ?_⟩
  apply F.nx
  refine Fv (.tuple #[.int .i64 (HarmOf_v0 m10 dl14 dl24 x31 x32 dl36 dl46), .bool (HarmOf_v1 m10 dl14 dl24 x31 x32 dl36 dl46)]) ?_
  refine Fq (.int .i64 (HarmOf_v0 m10 dl14 dl24 x31 x32 dl36 dl46)) (r_extract (vs := #[.int .i64 (HarmOf_v0 m10 dl14 dl24 x31 x32 dl36 dl46), .bool (HarmOf_v1 m10 dl14 dl24 x31 x32 dl36 dl46)]) rfl ek kk) ?_
  refine Fq (.bool (HarmOf_v1 m10 dl14 dl24 x31 x32 dl36 dl46)) (r_extract (vs := #[.int .i64 (HarmOf_v0 m10 dl14 dl24 x31 x32 dl36 dl46), .bool (HarmOf_v1 m10 dl14 dl24 x31 x32 dl36 dl46)]) rfl ek kk) ?_
  refine Fa (.int .i64 (HarmOf_v0 m10 dl14 dl24 x31 x32 dl36 dl46)) ?_
  refine Fa (.bool (HarmOf_v1 m10 dl14 dl24 x31 x32 dl36 dl46)) ?_
  apply F.es
  have x73 := Sk s83 x73 onn
  have c84 := (Sb c79 s83 nkk)
  have rd85 := Rk rd75 (SG.below s83)
  have rd86 := Rk rd76 (SG.below s83)
  have rd87 := Rk rd77 (SG.below s83)
  have rd88 := Rk rd78 (SG.below s83)
  apply h6
  refine wk fun K7 h7 => ?_
  refine wk fun K8 h8 => ?_
  refine W.region_plain (row := none) [(0, false), (1, false), (2, false), (3, false), (4, false), (5, false), (6, true), (7, false), (8, false), (9, false), (10, false), (11, false)] kk ?_
  have s89 := SG.self w82 none
  refine Fq (.agg #[.int .i64 m10, .slice A11 n12 c13]) (r_load2 rfl ek kk kk (sgS (blk_cell (j := 0) x73 kk) onn) (sgS (blk_cell (j := 1) x73 kk) onn)) ?_
  refine Fv (.slice A21 n22 c23) ?_
  refine Fv (.int .i64 x31) ?_
  refine Fv (.int .i64 x32) ?_
  refine Fv (.slice A33 n34 c35) ?_
  refine Fv (.slice A43 n44 c45) ?_
  refine Fc [.agg #[.int .i64 m10, .slice A11 n12 c13], .slice A21 n22 c23, .int .i64 x31, .int .i64 x32, .slice A33 n34 c35, .slice A43 n44 c45] (HarmOf_spec m10 A11 n12 c13 dl14 A21 n22 c23 dl24 x31 x32 A33 n34 c35 dl36 A43 n44 c45 dl46 w82 (Rk rd85 (SG.below s89)) (Rk rd86 (SG.below s89)) (Rk rd87 (SG.below s89)) (Rk rd88 (SG.below s89)) (by omega) (by omega) (by omega) (by omega) fm16 fm26 fm38 fm48) ?_
  rintro e w91 ⟨rfl, b90⟩
  have s92 := SG.of_below s89 b90
  refine ⟨_, rfl, s92, ?_⟩
  apply F.nx
  refine Fv (.tuple #[.int .i64 (HarmOf_v0 m10 dl14 dl24 x31 x32 dl36 dl46), .bool (HarmOf_v1 m10 dl14 dl24 x31 x32 dl36 dl46)]) ?_
  refine Fq (.int .i64 (HarmOf_v0 m10 dl14 dl24 x31 x32 dl36 dl46)) (r_extract (vs := #[.int .i64 (HarmOf_v0 m10 dl14 dl24 x31 x32 dl36 dl46), .bool (HarmOf_v1 m10 dl14 dl24 x31 x32 dl36 dl46)]) rfl ek kk) ?_
  refine Fq (.bool (HarmOf_v1 m10 dl14 dl24 x31 x32 dl36 dl46)) (r_extract (vs := #[.int .i64 (HarmOf_v0 m10 dl14 dl24 x31 x32 dl36 dl46), .bool (HarmOf_v1 m10 dl14 dl24 x31 x32 dl36 dl46)]) rfl ek kk) ?_
  refine Fa (.int .i64 (HarmOf_v0 m10 dl14 dl24 x31 x32 dl36 dl46)) ?_
  refine Fa (.bool (HarmOf_v1 m10 dl14 dl24 x31 x32 dl36 dl46)) ?_
  apply F.es
  have x73 := Sk s92 x73 onn
  have c93 := (Sb c84 s92 nkk)
  have rd94 := Rk rd85 (SG.below s92)
  have rd95 := Rk rd86 (SG.below s92)
  have rd97 := Rk rd88 (SG.below s92)
  apply h8
  refine wk fun K9 h9 => ?_
  refine Rq 8 ?_
  refine Fv (.int .i64 (HarmOf_v0 m10 dl14 dl24 x31 x32 dl36 dl46)) ?_
  refine Fv (.int .i64 (HarmOf_v0 m10 dl14 dl24 x31 x32 dl36 dl46)) ?_
  refine Fq (.bool false) (r_neq (m := (HarmOf_v0 m10 dl14 dl24 x31 x32 dl36 dl46)) (n := (HarmOf_v0 m10 dl14 dl24 x31 x32 dl36 dl46)) rfl ek ek (df (by omega))) ?_
  refine Fv (.bool false) ?_
  refine Fv (.bool (HarmOf_v1 m10 dl14 dl24 x31 x32 dl36 dl46)) ?_
  refine Fv (.bool (HarmOf_v1 m10 dl14 dl24 x31 x32 dl36 dl46)) ?_
  refine Fq (.bool false) (r_neqB (m := (HarmOf_v1 m10 dl14 dl24 x31 x32 dl36 dl46)) (n := (HarmOf_v1 m10 dl14 dl24 x31 x32 dl36 dl46)) rfl ek ek kk (by rw [show ((HarmOf_v1 m10 dl14 dl24 x31 x32 dl36 dl46) == (HarmOf_v1 m10 dl14 dl24 x31 x32 dl36 dl46)) = true from beq_iff_eq.2 rfl]; try rfl)) ?_
  refine Fq (.bool false) (r_pick (b := false) rfl ek ek) ?_
  apply F.es
  apply h9
  as_aux_lemma =>
   refine wp_cond_false ek ?_
   apply wp_skip
   apply h7
   refine joinK (fun amj1 aaj1 wlj1 => Kn aaj1 [(0, .slice A n c), (2, .bool false)] 242 ∧ (amj1 = 0) ∧ (Below w.heap.size w wlj1)) ?_ ?_
   ·rintro amj1 aaj1 wlj1 ⟨⟨Uj1, rfl⟩, rfl, c98⟩
    refine wk fun K10 h10 => ?_
    refine W.region_plain (row := none) [(0, false), (1, true), (2, false), (3, false), (4, false), (5, false), (6, false), (7, false), (8, true), (9, true), (10, false), (11, false), (12, false), (13, false)] kk ?_
    have s99 := SG.self wlj1 none
    refine Fv (.slice A n c) ?_
    have z100 := ((Sb c98 s99 nkk)).size
    refine Fc [.slice A n c] (DrawGentlestPlan_any A n c zs _ (Rk hcode (Sb c98 s99 nkk)) hz (by have h9 := of_decide_eq_false q5; omega)) ?_
    rintro e w135 ⟨m101, A102, n103, c104, dl105, A112, n113, c114, dl115, x122, x123, A124, n125, c126, dl127, rfl, ⟨⟨rd106, fm107, fr111⟩, hsm108⟩, ⟨⟨rd116, fm117, fr121⟩, hsm118⟩, ⟨⟨rd128, fm129, fr133⟩, hsm130⟩, b134⟩
    have s136 := SG.of_below s99 b134
    refine ⟨_, rfl, s136, ?_⟩
    apply F.nx
    have hl109 := rd_pipes_len rd106
    have hsm108m := hsm108.1
    have hsm108n := hsm108.2.1
    have hl119 := rd_valves_len rd116
    have hl131 := rd_ints_len rd128
    refine Fv (.tuple #[.agg #[.int .i64 m101, .slice A102 n103 c104], .slice A112 n113 c114, .int .i64 x122, .int .i64 x123, .slice A124 n125 c126]) ?_
    refine Fq (.agg #[.int .i64 m101, .slice A102 n103 c104]) (r_extract (vs := #[.agg #[.int .i64 m101, .slice A102 n103 c104], .slice A112 n113 c114, .int .i64 x122, .int .i64 x123, .slice A124 n125 c126]) rfl ek kk) ?_
    refine Fq (.slice A112 n113 c114) (r_extract (vs := #[.agg #[.int .i64 m101, .slice A102 n103 c104], .slice A112 n113 c114, .int .i64 x122, .int .i64 x123, .slice A124 n125 c126]) rfl ek kk) ?_
    refine Fq (.int .i64 x122) (r_extract (vs := #[.agg #[.int .i64 m101, .slice A102 n103 c104], .slice A112 n113 c114, .int .i64 x122, .int .i64 x123, .slice A124 n125 c126]) rfl ek kk) ?_
    refine Fq (.int .i64 x123) (r_extract (vs := #[.agg #[.int .i64 m101, .slice A102 n103 c104], .slice A112 n113 c114, .int .i64 x122, .int .i64 x123, .slice A124 n125 c126]) rfl ek kk) ?_
    refine Fq (.slice A124 n125 c126) (r_extract (vs := #[.agg #[.int .i64 m101, .slice A102 n103 c104], .slice A112 n113 c114, .int .i64 x122, .int .i64 x123, .slice A124 n125 c126]) rfl ek kk) ?_
    refine W.sn (fun b => .pointer (some ⟨b, 0, none⟩)) #[.int .i64 0, .slice none 0 0] 26 s136 rfl kk rfl (fun _ => by kernel_rfl) (fun b137 w138 hb139 k140 x141 s142 => ?_)
    apply F.nx
    have lo143 : w.heap.size ≤ b137 := Nl ((Sb c98 s136 nkk)).size (Nat.le_of_eq hb139)
    have sp144 : Sp A102 n103 (some b137) := sp_new rd106 (by have := hb139; omega)
    have sp145 : Sp A112 n113 (some b137) := sp_new rd116 (by have := hb139; omega)
    have sp146 : Sp A124 n125 (some b137) := sp_new rd128 (by have := hb139; omega)
    have rd147 := Rk rd106 k140
    have rd148 := Rk rd116 k140
    have rd149 := Rk rd128 k140
    refine W.ss (v := .agg #[.int .i64 m101, .slice A102 n103 c104]) (j := 0) (news := [.int .i64 m101, .slice A102 n103 c104]) (cs' := #[.int .i64 m101, .slice A102 n103 c104]) s142 rfl kk rfl rfl kk kk x141 kk kk (by simp) kk kk (.inr (Nl (s136).size (Nat.le_of_eq hb139))) (fun w150 g151 x152 s153 => ?_)
    have rd154 := rd_sepG rd147 g151 sp144
    have rd155 := rd_sepG rd148 g151 sp145
    have rd156 := rd_sepG rd149 g151 sp146
    refine Fa (.slice A112 n113 c114) ?_
    refine Fa (.int .i64 x122) ?_
    refine Fa (.int .i64 x123) ?_
    refine Fa (.slice A124 n125 c126) ?_
    apply F.es
    have c157 := (Sb c98 s153 nkk)
    apply h10
    refine wk fun K11 h11 => ?_
    refine W.region_plain (row := none) [(0, false), (1, false), (2, false), (3, false), (4, false), (5, true), (6, false), (7, false), (8, false), (9, false), (10, false), (11, false), (12, false)] kk ?_
    have s158 := SG.self w150 none
    refine Fq (.agg #[.int .i64 m101, .slice A102 n103 c104]) (r_load2 rfl ek kk kk (sgS (blk_cell (j := 0) x152 kk) onn) (sgS (blk_cell (j := 1) x152 kk) onn)) ?_
    refine Fv (.slice A112 n113 c114) ?_
    refine Fv (.int .i64 x122) ?_
    refine Fv (.int .i64 x123) ?_
    refine Fv (.slice A124 n125 c126) ?_
    refine Fc [.agg #[.int .i64 m101, .slice A102 n103 c104], .slice A112 n113 c114, .int .i64 x122, .int .i64 x123, .slice A124 n125 c126] (GentlestPlan_impl m101 A102 n103 c104 dl105 A112 n113 c114 dl115 x122 x123 A124 n125 c126 dl127 w150 (Rk rd154 (SG.below s158)) (Rk rd155 (SG.below s158)) (Rk rd156 (SG.below s158)) (by omega) (by omega) (by omega) fm107 fm117 fm129) ?_
    rintro e w167 ⟨A159, d160, rfl, r161, b166⟩
    have s168 := SG.of_below s158 b166
    refine ⟨_, rfl, s168, ?_⟩
    apply F.nx
    have rd162 := own_rd r161
    have hl164 : (GentlestPlan_v0 m101 dl105 dl115 x122 x123 dl127).length = (GentlestPlan_v0 m101 dl105 dl115 x122 x123 dl127).length := rfl
    have hb169 := GentlestPlan_len m101 dl105 dl115 x122 x123 dl127
    refine Fv (.tuple #[.slice A159 ((GentlestPlan_v0 m101 dl105 dl115 x122 x123 dl127).length) d160, .int .i64 (GentlestPlan_v1 m101 dl105 dl115 x122 x123 dl127), .bool (GentlestPlan_v2 m101 dl105 dl115 x122 x123 dl127)]) ?_
    refine Fq (.slice A159 ((GentlestPlan_v0 m101 dl105 dl115 x122 x123 dl127).length) d160) (r_extract (vs := #[.slice A159 ((GentlestPlan_v0 m101 dl105 dl115 x122 x123 dl127).length) d160, .int .i64 (GentlestPlan_v1 m101 dl105 dl115 x122 x123 dl127), .bool (GentlestPlan_v2 m101 dl105 dl115 x122 x123 dl127)]) rfl ek kk) ?_
    refine Fq (.int .i64 (GentlestPlan_v1 m101 dl105 dl115 x122 x123 dl127)) (r_extract (vs := #[.slice A159 ((GentlestPlan_v0 m101 dl105 dl115 x122 x123 dl127).length) d160, .int .i64 (GentlestPlan_v1 m101 dl105 dl115 x122 x123 dl127), .bool (GentlestPlan_v2 m101 dl105 dl115 x122 x123 dl127)]) rfl ek kk) ?_
    refine Fq (.bool (GentlestPlan_v2 m101 dl105 dl115 x122 x123 dl127)) (r_extract (vs := #[.slice A159 ((GentlestPlan_v0 m101 dl105 dl115 x122 x123 dl127).length) d160, .int .i64 (GentlestPlan_v1 m101 dl105 dl115 x122 x123 dl127), .bool (GentlestPlan_v2 m101 dl105 dl115 x122 x123 dl127)]) rfl ek kk) ?_
    refine Fa (.slice A159 ((GentlestPlan_v0 m101 dl105 dl115 x122 x123 dl127).length) d160) ?_
    refine Fa (.int .i64 (GentlestPlan_v1 m101 dl105 dl115 x122 x123 dl127)) ?_
    refine Fa (.bool (GentlestPlan_v2 m101 dl105 dl115 x122 x123 dl127)) ?_
    apply F.es
    have x152 := Sk s168 x152 onn
    have c170 := (Sb c157 s168 nkk)
    have rd171 := Rk rd154 (SG.below s168)
    have rd172 := Rk rd155 (SG.below s168)
    have rd173 := Rk rd156 (SG.below s168)
    apply h11
    as_aux_lemma =>
     refine wk fun K12 h12 => ?_
     refine wk fun K13 h13 => ?_
     refine W.region_plain (row := none) [(0, false), (1, false), (2, false), (3, false), (4, false), (5, true), (6, false), (7, false), (8, false), (9, false), (10, false), (11, false), (12, false)] kk ?_
     have s174 := SG.self w167 none
     refine Fq (.agg #[.int .i64 m101, .slice A102 n103 c104]) (r_load2 rfl ek kk kk (sgS (blk_cell (j := 0) x152 kk) onn) (sgS (blk_cell (j := 1) x152 kk) onn)) ?_
     refine Fv (.slice A112 n113 c114) ?_
     refine Fv (.int .i64 x122) ?_
     refine Fv (.int .i64 x123) ?_
     refine Fv (.slice A124 n125 c126) ?_
     refine Fc [.agg #[.int .i64 m101, .slice A102 n103 c104], .slice A112 n113 c114, .int .i64 x122, .int .i64 x123, .slice A124 n125 c126] (GentlestPlan_spec m101 A102 n103 c104 dl105 A112 n113 c114 dl115 x122 x123 A124 n125 c126 dl127 w167 (Rk rd171 (SG.below s174)) (Rk rd172 (SG.below s174)) (Rk rd173 (SG.below s174)) (by omega) (by omega) (by omega) fm107 fm117 fm129) ?_
     rintro e w183 ⟨A175, d176, rfl, r177, b182⟩
     have s184 := SG.of_below s174 b182
     refine ⟨_, rfl, s184, ?_⟩
     apply F.nx
     have hl180 : (GentlestPlan_v0 m101 dl105 dl115 x122 x123 dl127).length = (GentlestPlan_v0 m101 dl105 dl115 x122 x123 dl127).length := rfl
     refine Fv (.tuple #[.slice A175 ((GentlestPlan_v0 m101 dl105 dl115 x122 x123 dl127).length) d176, .int .i64 (GentlestPlan_v1 m101 dl105 dl115 x122 x123 dl127), .bool (GentlestPlan_v2 m101 dl105 dl115 x122 x123 dl127)]) ?_
     refine Fq (.slice A175 ((GentlestPlan_v0 m101 dl105 dl115 x122 x123 dl127).length) d176) (r_extract (vs := #[.slice A175 ((GentlestPlan_v0 m101 dl105 dl115 x122 x123 dl127).length) d176, .int .i64 (GentlestPlan_v1 m101 dl105 dl115 x122 x123 dl127), .bool (GentlestPlan_v2 m101 dl105 dl115 x122 x123 dl127)]) rfl ek kk) ?_
     refine Fq (.int .i64 (GentlestPlan_v1 m101 dl105 dl115 x122 x123 dl127)) (r_extract (vs := #[.slice A175 ((GentlestPlan_v0 m101 dl105 dl115 x122 x123 dl127).length) d176, .int .i64 (GentlestPlan_v1 m101 dl105 dl115 x122 x123 dl127), .bool (GentlestPlan_v2 m101 dl105 dl115 x122 x123 dl127)]) rfl ek kk) ?_
     refine Fq (.bool (GentlestPlan_v2 m101 dl105 dl115 x122 x123 dl127)) (r_extract (vs := #[.slice A175 ((GentlestPlan_v0 m101 dl105 dl115 x122 x123 dl127).length) d176, .int .i64 (GentlestPlan_v1 m101 dl105 dl115 x122 x123 dl127), .bool (GentlestPlan_v2 m101 dl105 dl115 x122 x123 dl127)]) rfl ek kk) ?_
     refine Fa (.slice A175 ((GentlestPlan_v0 m101 dl105 dl115 x122 x123 dl127).length) d176) ?_
     refine Fa (.int .i64 (GentlestPlan_v1 m101 dl105 dl115 x122 x123 dl127)) ?_
     refine Fa (.bool (GentlestPlan_v2 m101 dl105 dl115 x122 x123 dl127)) ?_
     apply F.es
     have x152 := Sk s184 x152 onn
     have c185 := (Sb c170 s184 nkk)
     have rd189 := Rk rd162 (SG.below s184)
     apply h13
     refine wk fun K14 h14 => ?_
     refine W.region_plain (row := none) [(0, false), (1, false), (2, false), (3, false), (4, false), (5, false), (6, false), (7, false), (8, false), (9, false), (10, false), (11, true), (12, false), (13, false)] kk ?_
     have s190 := SG.self w183 none
     refine Fv (.bool (GentlestPlan_v2 m101 dl105 dl115 x122 x123 dl127)) ?_
     refine Fv (.bool (GentlestPlan_v2 m101 dl105 dl115 x122 x123 dl127)) ?_
     refine Fq (.bool false) (r_neqB (m := (GentlestPlan_v2 m101 dl105 dl115 x122 x123 dl127)) (n := (GentlestPlan_v2 m101 dl105 dl115 x122 x123 dl127)) rfl ek ek kk (by rw [show ((GentlestPlan_v2 m101 dl105 dl115 x122 x123 dl127) == (GentlestPlan_v2 m101 dl105 dl115 x122 x123 dl127)) = true from beq_iff_eq.2 rfl]; try rfl)) ?_
     refine Fv (.bool false) ?_
     refine Fv (.int .i64 (GentlestPlan_v1 m101 dl105 dl115 x122 x123 dl127)) ?_
     refine Fv (.int .i64 (GentlestPlan_v1 m101 dl105 dl115 x122 x123 dl127)) ?_
     refine Fq (.bool false) (r_neq (m := (GentlestPlan_v1 m101 dl105 dl115 x122 x123 dl127)) (n := (GentlestPlan_v1 m101 dl105 dl115 x122 x123 dl127)) rfl ek ek (df (by omega))) ?_
     refine Fq (.bool false) (r_pick (b := false) rfl ek ek) ?_
     refine Fv (.bool false) ?_
     refine Fv (.slice A159 ((GentlestPlan_v0 m101 dl105 dl115 x122 x123 dl127).length) d160) ?_
     refine Fv (.slice A175 ((GentlestPlan_v0 m101 dl105 dl115 x122 x123 dl127).length) d176) ?_
     refine Fc [.slice A159 ((GentlestPlan_v0 m101 dl105 dl115 x122 x123 dl127).length) d160, .slice A175 ((GentlestPlan_v0 m101 dl105 dl115 x122 x123 dl127).length) d176] (vInts_same A159 A175 ((GentlestPlan_v0 m101 dl105 dl115 x122 x123 dl127).length) d160 d176 (GentlestPlan_v0 m101 dl105 dl115 x122 x123 dl127) _ (Rk rd189 (SG.below s190)) (Rk r177 (SG.below s190)) (by omega)) ?_
     rintro e w192 ⟨rfl, b191⟩
     have s193 := SG.of_below s190 b191
     refine ⟨_, rfl, s193, ?_⟩
     apply F.nx
     refine Fq (.bool false) (r_not (b := true) rfl ek rfl) ?_
     refine Fq (.bool false) (r_pick (b := false) rfl ek ek) ?_
     apply F.es
     have x152 := Sk s193 x152 onn
     have c194 := (Sb c185 s193 nkk)
     apply h14
     refine wp_cond_false ek ?_
     apply wp_skip
     apply h12
     as_aux_lemma =>
      refine wk fun K15 h15 => ?_
      refine W.region_plain (row := none) [(0, false), (1, true), (2, false), (3, false), (4, false), (5, false), (6, false), (7, true), (8, true), (9, false), (10, false), (11, false)] kk ?_
      have s200 := SG.self w192 none
      refine Fv (.slice A n c) ?_
      have lb202 := (Nat.lt_of_lt_of_le (blk_lt x152) (s200).size)
      have z201 := ((Sb c194 s200 nkk)).size
      refine Fc [.slice A n c] (DrawWorstBurst_any A n c zs _ (Rk hcode (Sb c194 s200 nkk)) hz (by have h9 := of_decide_eq_false q5; omega)) ?_
      rintro e w236 ⟨m203, A204, n205, c206, dl207, A214, n215, c216, dl217, x224, A225, n226, c227, dl228, rfl, ⟨⟨rd208, fm209, fr213⟩, hsm210⟩, ⟨⟨rd218, fm219, fr223⟩, hsm220⟩, ⟨⟨rd229, fm230, fr234⟩, hsm231⟩, b235⟩
      have s237 := SG.of_below s200 b235
      refine ⟨_, rfl, s237, ?_⟩
      apply F.nx
      have hl211 := rd_pipes_len rd208
      have hsm210m := hsm210.1
      have hsm210n := hsm210.2.1
      have hl221 := rd_valves_len rd218
      have hl232 := rd_ints_len rd229
      refine Fv (.tuple #[.agg #[.int .i64 m203, .slice A204 n205 c206], .slice A214 n215 c216, .int .i64 x224, .slice A225 n226 c227]) ?_
      refine Fq (.agg #[.int .i64 m203, .slice A204 n205 c206]) (r_extract (vs := #[.agg #[.int .i64 m203, .slice A204 n205 c206], .slice A214 n215 c216, .int .i64 x224, .slice A225 n226 c227]) rfl ek kk) ?_
      refine Fq (.slice A214 n215 c216) (r_extract (vs := #[.agg #[.int .i64 m203, .slice A204 n205 c206], .slice A214 n215 c216, .int .i64 x224, .slice A225 n226 c227]) rfl ek kk) ?_
      refine Fq (.int .i64 x224) (r_extract (vs := #[.agg #[.int .i64 m203, .slice A204 n205 c206], .slice A214 n215 c216, .int .i64 x224, .slice A225 n226 c227]) rfl ek kk) ?_
      refine Fq (.slice A225 n226 c227) (r_extract (vs := #[.agg #[.int .i64 m203, .slice A204 n205 c206], .slice A214 n215 c216, .int .i64 x224, .slice A225 n226 c227]) rfl ek kk) ?_
      refine W.sn (fun b => .pointer (some ⟨b, 0, none⟩)) #[.int .i64 0, .slice none 0 0] 26 s237 rfl kk rfl (fun _ => by kernel_rfl) (fun b241 w242 hb243 k244 x245 s246 => ?_)
      apply F.nx
      have lo247 : w.heap.size ≤ b241 := Nl ((Sb c194 s237 nkk)).size (Nat.le_of_eq hb243)
      have sp253 : Sp A204 n205 (some b241) := sp_new rd208 (by have := hb243; omega)
      have sp254 : Sp A214 n215 (some b241) := sp_new rd218 (by have := hb243; omega)
      have sp255 : Sp A225 n226 (some b241) := sp_new rd229 (by have := hb243; omega)
      have rd257 := Rk rd208 k244
      have rd258 := Rk rd218 k244
      have rd259 := Rk rd229 k244
      refine W.ss (v := .agg #[.int .i64 m203, .slice A204 n205 c206]) (j := 0) (news := [.int .i64 m203, .slice A204 n205 c206]) (cs' := #[.int .i64 m203, .slice A204 n205 c206]) s246 rfl kk rfl rfl kk kk x245 kk kk (by simp) kk kk (.inr (Nl (s237).size (Nat.le_of_eq hb243))) (fun w260 g261 x262 s263 => ?_)
      have rd264 := rd_sepG rd257 g261 sp253
      have rd265 := rd_sepG rd258 g261 sp254
      have rd266 := rd_sepG rd259 g261 sp255
      refine Fa (.slice A214 n215 c216) ?_
      refine Fa (.int .i64 x224) ?_
      refine Fa (.slice A225 n226 c227) ?_
      apply F.es
      have x152 := Sk s263 x152 onn
      have c267 := (Sb c194 s263 nkk)
      apply h15
      refine wk fun K16 h16 => ?_
      refine W.region_plain (row := none) [(0, false), (1, false), (2, false), (3, false), (4, true), (5, false), (6, false), (7, false), (8, false), (9, false), (10, false), (11, false)] kk ?_
      have s273 := SG.self w260 none
      refine Fq (.agg #[.int .i64 m203, .slice A204 n205 c206]) (r_load2 rfl ek kk kk (sgS (blk_cell (j := 0) x262 kk) onn) (sgS (blk_cell (j := 1) x262 kk) onn)) ?_
      refine Fv (.slice A214 n215 c216) ?_
      refine Fv (.int .i64 x224) ?_
      refine Fv (.slice A225 n226 c227) ?_
      refine Fc [.agg #[.int .i64 m203, .slice A204 n205 c206], .slice A214 n215 c216, .int .i64 x224, .slice A225 n226 c227] (WorstBurst_impl m203 A204 n205 c206 dl207 A214 n215 c216 dl217 x224 A225 n226 c227 dl228 w260 (Rk rd264 (SG.below s273)) (Rk rd265 (SG.below s273)) (Rk rd266 (SG.below s273)) (by omega) (by omega) (by omega) fm209 fm219 fm230) ?_
      rintro e w275 ⟨rfl, b274⟩
      have s276 := SG.of_below s273 b274
      refine ⟨_, rfl, s276, ?_⟩
      apply F.nx
      refine Fv (.tuple #[.int .i64 (WorstBurst_v0 m203 dl207 dl217 x224 dl228), .int .i64 (WorstBurst_v1 m203 dl207 dl217 x224 dl228), .bool (WorstBurst_v2 m203 dl207 dl217 x224 dl228)]) ?_
      refine Fq (.int .i64 (WorstBurst_v0 m203 dl207 dl217 x224 dl228)) (r_extract (vs := #[.int .i64 (WorstBurst_v0 m203 dl207 dl217 x224 dl228), .int .i64 (WorstBurst_v1 m203 dl207 dl217 x224 dl228), .bool (WorstBurst_v2 m203 dl207 dl217 x224 dl228)]) rfl ek kk) ?_
      refine Fq (.int .i64 (WorstBurst_v1 m203 dl207 dl217 x224 dl228)) (r_extract (vs := #[.int .i64 (WorstBurst_v0 m203 dl207 dl217 x224 dl228), .int .i64 (WorstBurst_v1 m203 dl207 dl217 x224 dl228), .bool (WorstBurst_v2 m203 dl207 dl217 x224 dl228)]) rfl ek kk) ?_
      refine Fq (.bool (WorstBurst_v2 m203 dl207 dl217 x224 dl228)) (r_extract (vs := #[.int .i64 (WorstBurst_v0 m203 dl207 dl217 x224 dl228), .int .i64 (WorstBurst_v1 m203 dl207 dl217 x224 dl228), .bool (WorstBurst_v2 m203 dl207 dl217 x224 dl228)]) rfl ek kk) ?_
      refine Fa (.int .i64 (WorstBurst_v0 m203 dl207 dl217 x224 dl228)) ?_
      refine Fa (.int .i64 (WorstBurst_v1 m203 dl207 dl217 x224 dl228)) ?_
      refine Fa (.bool (WorstBurst_v2 m203 dl207 dl217 x224 dl228)) ?_
      apply F.es
      have x152 := Sk s276 x152 onn
      have x262 := Sk s276 x262 onn
      have c277 := (Sb c267 s276 nkk)
      have rd283 := Rk rd264 (SG.below s276)
      have rd284 := Rk rd265 (SG.below s276)
      have rd285 := Rk rd266 (SG.below s276)
      apply h16
      as_aux_lemma =>
       refine wk fun K17 h17 => ?_
       refine wk fun K18 h18 => ?_
       refine W.region_plain (row := none) [(0, false), (1, false), (2, false), (3, false), (4, true), (5, false), (6, false), (7, false), (8, false), (9, false), (10, false), (11, false)] kk ?_
       have s286 := SG.self w275 none
       refine Fq (.agg #[.int .i64 m203, .slice A204 n205 c206]) (r_load2 rfl ek kk kk (sgS (blk_cell (j := 0) x262 kk) onn) (sgS (blk_cell (j := 1) x262 kk) onn)) ?_
       refine Fv (.slice A214 n215 c216) ?_
       refine Fv (.int .i64 x224) ?_
       refine Fv (.slice A225 n226 c227) ?_
       refine Fc [.agg #[.int .i64 m203, .slice A204 n205 c206], .slice A214 n215 c216, .int .i64 x224, .slice A225 n226 c227] (WorstBurst_spec m203 A204 n205 c206 dl207 A214 n215 c216 dl217 x224 A225 n226 c227 dl228 w275 (Rk rd283 (SG.below s286)) (Rk rd284 (SG.below s286)) (Rk rd285 (SG.below s286)) (by omega) (by omega) (by omega) fm209 fm219 fm230) ?_
       rintro e w288 ⟨rfl, b287⟩
       have s289 := SG.of_below s286 b287
       refine ⟨_, rfl, s289, ?_⟩
       apply F.nx
       refine Fv (.tuple #[.int .i64 (WorstBurst_v0 m203 dl207 dl217 x224 dl228), .int .i64 (WorstBurst_v1 m203 dl207 dl217 x224 dl228), .bool (WorstBurst_v2 m203 dl207 dl217 x224 dl228)]) ?_
       refine Fq (.int .i64 (WorstBurst_v0 m203 dl207 dl217 x224 dl228)) (r_extract (vs := #[.int .i64 (WorstBurst_v0 m203 dl207 dl217 x224 dl228), .int .i64 (WorstBurst_v1 m203 dl207 dl217 x224 dl228), .bool (WorstBurst_v2 m203 dl207 dl217 x224 dl228)]) rfl ek kk) ?_
       refine Fq (.int .i64 (WorstBurst_v1 m203 dl207 dl217 x224 dl228)) (r_extract (vs := #[.int .i64 (WorstBurst_v0 m203 dl207 dl217 x224 dl228), .int .i64 (WorstBurst_v1 m203 dl207 dl217 x224 dl228), .bool (WorstBurst_v2 m203 dl207 dl217 x224 dl228)]) rfl ek kk) ?_
       refine Fq (.bool (WorstBurst_v2 m203 dl207 dl217 x224 dl228)) (r_extract (vs := #[.int .i64 (WorstBurst_v0 m203 dl207 dl217 x224 dl228), .int .i64 (WorstBurst_v1 m203 dl207 dl217 x224 dl228), .bool (WorstBurst_v2 m203 dl207 dl217 x224 dl228)]) rfl ek kk) ?_
       refine Fa (.int .i64 (WorstBurst_v0 m203 dl207 dl217 x224 dl228)) ?_
       refine Fa (.int .i64 (WorstBurst_v1 m203 dl207 dl217 x224 dl228)) ?_
       refine Fa (.bool (WorstBurst_v2 m203 dl207 dl217 x224 dl228)) ?_
       apply F.es
       have x152 := Sk s289 x152 onn
       have x262 := Sk s289 x262 onn
       have c290 := (Sb c277 s289 nkk)
       apply h18
       refine wk fun K19 h19 => ?_
       refine Rq 13 ?_
       refine Fv (.int .i64 (WorstBurst_v0 m203 dl207 dl217 x224 dl228)) ?_
       refine Fv (.int .i64 (WorstBurst_v0 m203 dl207 dl217 x224 dl228)) ?_
       refine Fq (.bool false) (r_neq (m := (WorstBurst_v0 m203 dl207 dl217 x224 dl228)) (n := (WorstBurst_v0 m203 dl207 dl217 x224 dl228)) rfl ek ek (df (by omega))) ?_
       refine Fv (.bool false) ?_
       refine Fv (.int .i64 (WorstBurst_v1 m203 dl207 dl217 x224 dl228)) ?_
       refine Fv (.int .i64 (WorstBurst_v1 m203 dl207 dl217 x224 dl228)) ?_
       refine Fq (.bool false) (r_neq (m := (WorstBurst_v1 m203 dl207 dl217 x224 dl228)) (n := (WorstBurst_v1 m203 dl207 dl217 x224 dl228)) rfl ek ek (df (by omega))) ?_
       refine Fq (.bool false) (r_pick (b := false) rfl ek ek) ?_
       refine Fv (.bool false) ?_
       refine Fv (.bool (WorstBurst_v2 m203 dl207 dl217 x224 dl228)) ?_
       refine Fv (.bool (WorstBurst_v2 m203 dl207 dl217 x224 dl228)) ?_
       refine Fq (.bool false) (r_neqB (m := (WorstBurst_v2 m203 dl207 dl217 x224 dl228)) (n := (WorstBurst_v2 m203 dl207 dl217 x224 dl228)) rfl ek ek kk (by rw [show ((WorstBurst_v2 m203 dl207 dl217 x224 dl228) == (WorstBurst_v2 m203 dl207 dl217 x224 dl228)) = true from beq_iff_eq.2 rfl]; try rfl)) ?_
       refine Fq (.bool false) (r_pick (b := false) rfl ek ek) ?_
       apply F.es
       apply h19
       refine wp_cond_false ek ?_
       apply wp_skip
       apply h17
       refine wk fun K20 h20 => ?_
       refine W.region_plain (row := none) [(0, false), (1, true), (2, false), (3, false), (4, false), (5, false), (6, false), (7, false), (8, false), (9, true), (10, true), (11, true), (12, false), (13, false), (14, false), (15, true), (16, false)] kk ?_
       have s299 := SG.self w288 none
       refine Fv (.slice A n c) ?_
       have lb301 := (Nat.lt_of_lt_of_le (blk_lt x152) (s299).size)
       have lb302 := (Nat.lt_of_lt_of_le (blk_lt x262) (s299).size)
       have z300 := ((Sb c290 s299 nkk)).size
       refine Fc [.slice A n c] (DrawNewValveGain_any A n c zs _ (Rk hcode (Sb c290 s299 nkk)) hz (by have h9 := of_decide_eq_false q5; omega)) ?_
       rintro e w338 ⟨m303, A304, n305, c306, dl307, A314, n315, c316, dl317, x324, x325, x326, A327, n328, c329, dl330, rfl, ⟨⟨rd308, fm309, fr313⟩, hsm310⟩, ⟨⟨rd318, fm319, fr323⟩, hsm320⟩, ⟨⟨rd331, fm332, fr336⟩, hsm333⟩, b337⟩
       have s339 := SG.of_below s299 b337
       refine ⟨_, rfl, s339, ?_⟩
       apply F.nx
       have hl311 := rd_pipes_len rd308
       have hsm310m := hsm310.1
       have hsm310n := hsm310.2.1
       have hl321 := rd_valves_len rd318
       have hl334 := rd_ints_len rd331
       refine Fv (.tuple #[.agg #[.int .i64 m303, .slice A304 n305 c306], .slice A314 n315 c316, .int .i64 x324, .int .i64 x325, .agg #[.int .i64 x326.id, .int .i64 x326.pipe, .int .i64 x326.node, .bool x326.shut], .slice A327 n328 c329]) ?_
       refine Fq (.agg #[.int .i64 m303, .slice A304 n305 c306]) (r_extract (vs := #[.agg #[.int .i64 m303, .slice A304 n305 c306], .slice A314 n315 c316, .int .i64 x324, .int .i64 x325, .agg #[.int .i64 x326.id, .int .i64 x326.pipe, .int .i64 x326.node, .bool x326.shut], .slice A327 n328 c329]) rfl ek kk) ?_
       refine Fq (.slice A314 n315 c316) (r_extract (vs := #[.agg #[.int .i64 m303, .slice A304 n305 c306], .slice A314 n315 c316, .int .i64 x324, .int .i64 x325, .agg #[.int .i64 x326.id, .int .i64 x326.pipe, .int .i64 x326.node, .bool x326.shut], .slice A327 n328 c329]) rfl ek kk) ?_
       refine Fq (.int .i64 x324) (r_extract (vs := #[.agg #[.int .i64 m303, .slice A304 n305 c306], .slice A314 n315 c316, .int .i64 x324, .int .i64 x325, .agg #[.int .i64 x326.id, .int .i64 x326.pipe, .int .i64 x326.node, .bool x326.shut], .slice A327 n328 c329]) rfl ek kk) ?_
       refine Fq (.int .i64 x325) (r_extract (vs := #[.agg #[.int .i64 m303, .slice A304 n305 c306], .slice A314 n315 c316, .int .i64 x324, .int .i64 x325, .agg #[.int .i64 x326.id, .int .i64 x326.pipe, .int .i64 x326.node, .bool x326.shut], .slice A327 n328 c329]) rfl ek kk) ?_
       refine Fq (.agg #[.int .i64 x326.id, .int .i64 x326.pipe, .int .i64 x326.node, .bool x326.shut]) (r_extract (vs := #[.agg #[.int .i64 m303, .slice A304 n305 c306], .slice A314 n315 c316, .int .i64 x324, .int .i64 x325, .agg #[.int .i64 x326.id, .int .i64 x326.pipe, .int .i64 x326.node, .bool x326.shut], .slice A327 n328 c329]) rfl ek kk) ?_
       refine Fq (.slice A327 n328 c329) (r_extract (vs := #[.agg #[.int .i64 m303, .slice A304 n305 c306], .slice A314 n315 c316, .int .i64 x324, .int .i64 x325, .agg #[.int .i64 x326.id, .int .i64 x326.pipe, .int .i64 x326.node, .bool x326.shut], .slice A327 n328 c329]) rfl ek kk) ?_
       refine W.sn (fun b => .pointer (some ⟨b, 0, none⟩)) #[.int .i64 0, .slice none 0 0] 26 s339 rfl kk rfl (fun _ => by kernel_rfl) (fun b346 w347 hb348 k349 x350 s351 => ?_)
       apply F.nx
       have lo352 : w.heap.size ≤ b346 := Nl ((Sb c290 s339 nkk)).size (Nat.le_of_eq hb348)
       have sp361 : Sp A304 n305 (some b346) := sp_new rd308 (by have := hb348; omega)
       have sp362 : Sp A314 n315 (some b346) := sp_new rd318 (by have := hb348; omega)
       have sp363 : Sp A327 n328 (some b346) := sp_new rd331 (by have := hb348; omega)
       have rd366 := Rk rd308 k349
       have rd367 := Rk rd318 k349
       have rd368 := Rk rd331 k349
       refine W.sn (fun b => .pointer (some ⟨b, 0, none⟩)) #[.int .i64 0, .int .i64 0, .int .i64 0, .bool false] 40 s351 rfl kk rfl (fun _ => by kernel_rfl) (fun b369 w370 hb371 k372 x373 s374 => ?_)
       apply F.nx
       have lo375 : w.heap.size ≤ b369 := Nl ((Sb c290 s351 nkk)).size (Nat.le_of_eq hb371)
       have sp384 : Sp A304 n305 (some b369) := sp_new rd366 (by have := hb371; omega)
       have sp385 : Sp A314 n315 (some b369) := sp_new rd367 (by have := hb371; omega)
       have sp386 : Sp A327 n328 (some b369) := sp_new rd368 (by have := hb371; omega)
       have ne389 : b346 ≠ b369 := Nat.ne_of_lt (Nat.lt_of_lt_of_eq (blk_lt x350) hb371)
       have x350 := (k372.block _ (blk_lt x350)).trans x350
       have rd390 := Rk rd366 k372
       have rd391 := Rk rd367 k372
       have rd392 := Rk rd368 k372
       refine W.ss (v := .agg #[.int .i64 m303, .slice A304 n305 c306]) (j := 0) (news := [.int .i64 m303, .slice A304 n305 c306]) (cs' := #[.int .i64 m303, .slice A304 n305 c306]) s374 rfl kk rfl rfl kk kk x350 kk kk (by simp) kk kk (.inr (Nl (s339).size (Nat.le_of_eq hb348))) (fun w393 g394 x395 s396 => ?_)
       have x373 := (g394.block _ (blk_lt x373) (fun e9 => ne389 (Option.some.inj e9).symm)).trans x373
       have rd397 := rd_sepG rd390 g394 sp361
       have rd398 := rd_sepG rd391 g394 sp362
       have rd399 := rd_sepG rd392 g394 sp363
       refine Fa (.slice A314 n315 c316) ?_
       refine Fa (.int .i64 x324) ?_
       refine Fa (.int .i64 x325) ?_
       refine W.ss (v := .agg #[.int .i64 x326.id, .int .i64 x326.pipe, .int .i64 x326.node, .bool x326.shut]) (j := 0) (news := [.int .i64 x326.id, .int .i64 x326.pipe, .int .i64 x326.node, .bool x326.shut]) (cs' := #[.int .i64 x326.id, .int .i64 x326.pipe, .int .i64 x326.node, .bool x326.shut]) s396 rfl kk rfl rfl kk kk x373 kk kk (by simp) kk kk (.inr (Nl (s351).size (Nat.le_of_eq hb371))) (fun w400 g401 x402 s403 => ?_)
       have x395 := (g401.block _ (blk_lt x395) (fun e9 => ne389 (Option.some.inj e9))).trans x395
       have rd404 := rd_sepG rd397 g401 sp384
       have rd405 := rd_sepG rd398 g401 sp385
       have rd406 := rd_sepG rd399 g401 sp386
       refine Fa (.slice A327 n328 c329) ?_
       apply F.es
       have c407 := (Sb c290 s403 nkk)
       apply h20
       as_aux_lemma =>
        refine wk fun K21 h21 => ?_
        refine W.region_plain (row := none) [(0, false), (1, false), (2, false), (3, false), (4, false), (5, false), (6, true), (7, false), (8, false), (9, false), (10, false), (11, false)] kk ?_
        have s416 := SG.self w400 none
        refine Fq (.agg #[.int .i64 m303, .slice A304 n305 c306]) (r_load2 rfl ek kk kk (sgS (blk_cell (j := 0) x395 kk) onn) (sgS (blk_cell (j := 1) x395 kk) onn)) ?_
        refine Fv (.slice A314 n315 c316) ?_
        refine Fv (.int .i64 x324) ?_
        refine Fv (.int .i64 x325) ?_
        refine Fq (.agg #[.int .i64 x326.id, .int .i64 x326.pipe, .int .i64 x326.node, .bool x326.shut]) (r_load4 rfl ek kk kk (sgS (blk_cell (j := 0) x402 kk) onn) (sgS (blk_cell (j := 1) x402 kk) onn) (sgS (blk_cell (j := 2) x402 kk) onn) (sgS (blk_cell (j := 3) x402 kk) onn)) ?_
        refine Fv (.slice A327 n328 c329) ?_
        refine Fc [.agg #[.int .i64 m303, .slice A304 n305 c306], .slice A314 n315 c316, .int .i64 x324, .int .i64 x325, .agg #[.int .i64 x326.id, .int .i64 x326.pipe, .int .i64 x326.node, .bool x326.shut], .slice A327 n328 c329] (NewValveGain_impl m303 A304 n305 c306 dl307 A314 n315 c316 dl317 x324 x325 x326 A327 n328 c329 dl330 w400 (Rk rd404 (SG.below s416)) (Rk rd405 (SG.below s416)) (Rk rd406 (SG.below s416)) (by omega) (by omega) (by omega) fm309 fm319 fm332) ?_
        rintro e w418 ⟨rfl, b417⟩
        have s419 := SG.of_below s416 b417
        refine ⟨_, rfl, s419, ?_⟩
        apply F.nx
        refine Fv (.tuple #[.int .i64 (NewValveGain_v0 m303 dl307 dl317 x324 x325 x326 dl330), .bool (NewValveGain_v1 m303 dl307 dl317 x324 x325 x326 dl330)]) ?_
        refine Fq (.int .i64 (NewValveGain_v0 m303 dl307 dl317 x324 x325 x326 dl330)) (r_extract (vs := #[.int .i64 (NewValveGain_v0 m303 dl307 dl317 x324 x325 x326 dl330), .bool (NewValveGain_v1 m303 dl307 dl317 x324 x325 x326 dl330)]) rfl ek kk) ?_
        refine Fq (.bool (NewValveGain_v1 m303 dl307 dl317 x324 x325 x326 dl330)) (r_extract (vs := #[.int .i64 (NewValveGain_v0 m303 dl307 dl317 x324 x325 x326 dl330), .bool (NewValveGain_v1 m303 dl307 dl317 x324 x325 x326 dl330)]) rfl ek kk) ?_
        refine Fa (.int .i64 (NewValveGain_v0 m303 dl307 dl317 x324 x325 x326 dl330)) ?_
        refine Fa (.bool (NewValveGain_v1 m303 dl307 dl317 x324 x325 x326 dl330)) ?_
        apply F.es
        have x395 := Sk s419 x395 onn
        have x402 := Sk s419 x402 onn
        have c420 := (Sb c407 s419 nkk)
        have rd429 := Rk rd404 (SG.below s419)
        have rd430 := Rk rd405 (SG.below s419)
        have rd431 := Rk rd406 (SG.below s419)
        apply h21
        refine wk fun K22 h22 => ?_
        refine W.region_plain (row := none) [(0, false), (1, false), (2, false), (3, false), (4, false), (5, false), (6, true), (7, false), (8, false), (9, false), (10, false), (11, false)] kk ?_
        have s432 := SG.self w418 none
        refine Fq (.agg #[.int .i64 m303, .slice A304 n305 c306]) (r_load2 rfl ek kk kk (sgS (blk_cell (j := 0) x395 kk) onn) (sgS (blk_cell (j := 1) x395 kk) onn)) ?_
        refine Fv (.slice A314 n315 c316) ?_
        refine Fv (.int .i64 x324) ?_
        refine Fv (.int .i64 x325) ?_
        refine Fq (.agg #[.int .i64 x326.id, .int .i64 x326.pipe, .int .i64 x326.node, .bool x326.shut]) (r_load4 rfl ek kk kk (sgS (blk_cell (j := 0) x402 kk) onn) (sgS (blk_cell (j := 1) x402 kk) onn) (sgS (blk_cell (j := 2) x402 kk) onn) (sgS (blk_cell (j := 3) x402 kk) onn)) ?_
        refine Fv (.slice A327 n328 c329) ?_
        refine Fc [.agg #[.int .i64 m303, .slice A304 n305 c306], .slice A314 n315 c316, .int .i64 x324, .int .i64 x325, .agg #[.int .i64 x326.id, .int .i64 x326.pipe, .int .i64 x326.node, .bool x326.shut], .slice A327 n328 c329] (NewValveGain_spec m303 A304 n305 c306 dl307 A314 n315 c316 dl317 x324 x325 x326 A327 n328 c329 dl330 w418 (Rk rd429 (SG.below s432)) (Rk rd430 (SG.below s432)) (Rk rd431 (SG.below s432)) (by omega) (by omega) (by omega) fm309 fm319 fm332) ?_
        rintro e w434 ⟨rfl, b433⟩
        have s435 := SG.of_below s432 b433
        refine ⟨_, rfl, s435, ?_⟩
        apply F.nx
        refine Fv (.tuple #[.int .i64 (NewValveGain_v0 m303 dl307 dl317 x324 x325 x326 dl330), .bool (NewValveGain_v1 m303 dl307 dl317 x324 x325 x326 dl330)]) ?_
        refine Fq (.int .i64 (NewValveGain_v0 m303 dl307 dl317 x324 x325 x326 dl330)) (r_extract (vs := #[.int .i64 (NewValveGain_v0 m303 dl307 dl317 x324 x325 x326 dl330), .bool (NewValveGain_v1 m303 dl307 dl317 x324 x325 x326 dl330)]) rfl ek kk) ?_
        refine Fq (.bool (NewValveGain_v1 m303 dl307 dl317 x324 x325 x326 dl330)) (r_extract (vs := #[.int .i64 (NewValveGain_v0 m303 dl307 dl317 x324 x325 x326 dl330), .bool (NewValveGain_v1 m303 dl307 dl317 x324 x325 x326 dl330)]) rfl ek kk) ?_
        refine Fa (.int .i64 (NewValveGain_v0 m303 dl307 dl317 x324 x325 x326 dl330)) ?_
        refine Fa (.bool (NewValveGain_v1 m303 dl307 dl317 x324 x325 x326 dl330)) ?_
        apply F.es
        have c436 := (Sb c420 s435 nkk)
        apply h22
        as_aux_lemma =>
         refine wk fun K23 h23 => ?_
         refine Rq 9 ?_
         refine Fv (.int .i64 (NewValveGain_v0 m303 dl307 dl317 x324 x325 x326 dl330)) ?_
         refine Fv (.int .i64 (NewValveGain_v0 m303 dl307 dl317 x324 x325 x326 dl330)) ?_
         refine Fq (.bool true) (r_eql (m := (NewValveGain_v0 m303 dl307 dl317 x324 x325 x326 dl330)) (n := (NewValveGain_v0 m303 dl307 dl317 x324 x325 x326 dl330)) rfl ek ek (dt (by omega))) ?_
         refine Fv (.bool true) ?_
         refine Fv (.bool (NewValveGain_v1 m303 dl307 dl317 x324 x325 x326 dl330)) ?_
         refine Fv (.bool (NewValveGain_v1 m303 dl307 dl317 x324 x325 x326 dl330)) ?_
         refine Fq (.bool true) (r_eqlB (m := (NewValveGain_v1 m303 dl307 dl317 x324 x325 x326 dl330)) (n := (NewValveGain_v1 m303 dl307 dl317 x324 x325 x326 dl330)) rfl ek ek kk (beq_iff_eq.2 rfl)) ?_
         refine Fq (.bool true) (r_pick (b := true) rfl ek ek) ?_
         refine Fa (.bool true) ?_
         apply F.es
         apply h23
         refine wp_ret ?_
         try simp only [Exit.then]
         refine ret1 (v := .bool true) rfl kk ?_
         exact ⟨rfl, c436⟩
   intro K24 h24
   refine wk fun K25 h25 => ?_
   refine Rq 1 ?_
   refine Fv (.bool (HarmOf_v1 m10 dl14 dl24 x31 x32 dl36 dl46)) ?_
   apply F.es
   apply h25
   rcases Bool.eq_false_or_eq_true (HarmOf_v1 m10 dl14 dl24 x31 x32 dl36 dl46) with q448 | q448
   ·rw [q448]
    refine wp_cond_true ek ?_
    refine wk fun K26 h26 => ?_
    refine W.region_plain (row := none) [(0, false), (1, false), (2, false), (3, false), (4, false), (5, true), (6, false), (7, false), (8, false), (9, false), (10, false), (11, false), (12, false)] kk ?_
    have s449 := SG.self w91 none
    refine Fq (.agg #[.int .i64 m10, .slice A11 n12 c13]) (r_load2 rfl ek kk kk (sgS (blk_cell (j := 0) x73 kk) onn) (sgS (blk_cell (j := 1) x73 kk) onn)) ?_
    refine Fv (.slice A21 n22 c23) ?_
    refine Fv (.int .i64 x31) ?_
    refine Fv (.int .i64 x32) ?_
    refine Fv (.slice A43 n44 c45) ?_
    have hgo := gentle_of q448
    refine Fc [.agg #[.int .i64 m10, .slice A11 n12 c13], .slice A21 n22 c23, .int .i64 x31, .int .i64 x32, .slice A43 n44 c45] (GentlestPlan_impl m10 A11 n12 c13 dl14 A21 n22 c23 dl24 x31 x32 A43 n44 c45 dl46 w91 (Rk rd94 (SG.below s449)) (Rk rd95 (SG.below s449)) (Rk rd97 (SG.below s449)) (by omega) (by omega) (by omega) fm16 fm26 fm48) ?_
    rintro e w458 ⟨A450, d451, rfl, r452, b457⟩
    have s459 := SG.of_below s449 b457
    refine ⟨_, rfl, s459, ?_⟩
    apply F.nx
    have rd453 := own_rd r452
    have fm454 := own_fm r452
    have hl455 : (GentlestPlan_v0 m10 dl14 dl24 x31 x32 dl46).length = (GentlestPlan_v0 m10 dl14 dl24 x31 x32 dl46).length := rfl
    have hb460 := GentlestPlan_len m10 dl14 dl24 x31 x32 dl46
    refine Fv (.tuple #[.slice A450 ((GentlestPlan_v0 m10 dl14 dl24 x31 x32 dl46).length) d451, .int .i64 (GentlestPlan_v1 m10 dl14 dl24 x31 x32 dl46), .bool (GentlestPlan_v2 m10 dl14 dl24 x31 x32 dl46)]) ?_
    refine Fq (.slice A450 ((GentlestPlan_v0 m10 dl14 dl24 x31 x32 dl46).length) d451) (r_extract (vs := #[.slice A450 ((GentlestPlan_v0 m10 dl14 dl24 x31 x32 dl46).length) d451, .int .i64 (GentlestPlan_v1 m10 dl14 dl24 x31 x32 dl46), .bool (GentlestPlan_v2 m10 dl14 dl24 x31 x32 dl46)]) rfl ek kk) ?_
    refine Fq (.int .i64 (GentlestPlan_v1 m10 dl14 dl24 x31 x32 dl46)) (r_extract (vs := #[.slice A450 ((GentlestPlan_v0 m10 dl14 dl24 x31 x32 dl46).length) d451, .int .i64 (GentlestPlan_v1 m10 dl14 dl24 x31 x32 dl46), .bool (GentlestPlan_v2 m10 dl14 dl24 x31 x32 dl46)]) rfl ek kk) ?_
    refine Fq (.bool (GentlestPlan_v2 m10 dl14 dl24 x31 x32 dl46)) (r_extract (vs := #[.slice A450 ((GentlestPlan_v0 m10 dl14 dl24 x31 x32 dl46).length) d451, .int .i64 (GentlestPlan_v1 m10 dl14 dl24 x31 x32 dl46), .bool (GentlestPlan_v2 m10 dl14 dl24 x31 x32 dl46)]) rfl ek kk) ?_
    refine Fa (.slice A450 ((GentlestPlan_v0 m10 dl14 dl24 x31 x32 dl46).length) d451) ?_
    refine Fa (.int .i64 (GentlestPlan_v1 m10 dl14 dl24 x31 x32 dl46)) ?_
    refine Fa (.bool (GentlestPlan_v2 m10 dl14 dl24 x31 x32 dl46)) ?_
    apply F.es
    have x73 := Sk s459 x73 onn
    have c461 := (Sb c93 s459 nkk)
    have rd462 := Rk rd94 (SG.below s459)
    have rd463 := Rk rd95 (SG.below s459)
    have rd465 := Rk rd97 (SG.below s459)
    apply h26
    refine wk fun K27 h27 => ?_
    refine W.region_plain (row := none) [(0, false), (1, false), (2, false), (3, false), (4, false), (5, false), (6, true), (7, false), (8, false), (9, false), (10, false), (11, false)] kk ?_
    have s466 := SG.self w458 none
    refine Fq (.agg #[.int .i64 m10, .slice A11 n12 c13]) (r_load2 rfl ek kk kk (sgS (blk_cell (j := 0) x73 kk) onn) (sgS (blk_cell (j := 1) x73 kk) onn)) ?_
    refine Fv (.slice A21 n22 c23) ?_
    refine Fv (.int .i64 x31) ?_
    refine Fv (.int .i64 x32) ?_
    refine Fv (.slice A450 ((GentlestPlan_v0 m10 dl14 dl24 x31 x32 dl46).length) d451) ?_
    refine Fv (.slice A43 n44 c45) ?_
    refine Fc [.agg #[.int .i64 m10, .slice A11 n12 c13], .slice A21 n22 c23, .int .i64 x31, .int .i64 x32, .slice A450 ((GentlestPlan_v0 m10 dl14 dl24 x31 x32 dl46).length) d451, .slice A43 n44 c45] (HarmOf_impl m10 A11 n12 c13 dl14 A21 n22 c23 dl24 x31 x32 A450 ((GentlestPlan_v0 m10 dl14 dl24 x31 x32 dl46).length) d451 (GentlestPlan_v0 m10 dl14 dl24 x31 x32 dl46) A43 n44 c45 dl46 w458 (Rk rd462 (SG.below s466)) (Rk rd463 (SG.below s466)) (Rk rd453 (SG.below s466)) (Rk rd465 (SG.below s466)) (by omega) (by omega) (by omega) (by omega) fm16 fm26 fm454 fm48) ?_
    rintro e w468 ⟨rfl, b467⟩
    have s469 := SG.of_below s466 b467
    refine ⟨_, rfl, s469, ?_⟩
    apply F.nx
    refine Fv (.tuple #[.int .i64 (HarmOf_v0 m10 dl14 dl24 x31 x32 (GentlestPlan_v0 m10 dl14 dl24 x31 x32 dl46) dl46), .bool (HarmOf_v1 m10 dl14 dl24 x31 x32 (GentlestPlan_v0 m10 dl14 dl24 x31 x32 dl46) dl46)]) ?_
    refine Fq (.int .i64 (HarmOf_v0 m10 dl14 dl24 x31 x32 (GentlestPlan_v0 m10 dl14 dl24 x31 x32 dl46) dl46)) (r_extract (vs := #[.int .i64 (HarmOf_v0 m10 dl14 dl24 x31 x32 (GentlestPlan_v0 m10 dl14 dl24 x31 x32 dl46) dl46), .bool (HarmOf_v1 m10 dl14 dl24 x31 x32 (GentlestPlan_v0 m10 dl14 dl24 x31 x32 dl46) dl46)]) rfl ek kk) ?_
    refine Fq (.bool (HarmOf_v1 m10 dl14 dl24 x31 x32 (GentlestPlan_v0 m10 dl14 dl24 x31 x32 dl46) dl46)) (r_extract (vs := #[.int .i64 (HarmOf_v0 m10 dl14 dl24 x31 x32 (GentlestPlan_v0 m10 dl14 dl24 x31 x32 dl46) dl46), .bool (HarmOf_v1 m10 dl14 dl24 x31 x32 (GentlestPlan_v0 m10 dl14 dl24 x31 x32 dl46) dl46)]) rfl ek kk) ?_
    refine Fa (.int .i64 (HarmOf_v0 m10 dl14 dl24 x31 x32 (GentlestPlan_v0 m10 dl14 dl24 x31 x32 dl46) dl46)) ?_
    refine Fa (.bool (HarmOf_v1 m10 dl14 dl24 x31 x32 (GentlestPlan_v0 m10 dl14 dl24 x31 x32 dl46) dl46)) ?_
    apply F.es
    have c470 := (Sb c461 s469 nkk)
    apply h27
    as_aux_lemma =>
     refine wk fun K28 h28 => ?_
     refine Rq 16 ?_
     refine Fv (.bool (GentlestPlan_v2 m10 dl14 dl24 x31 x32 dl46)) ?_
     have q476 : (GentlestPlan_v2 m10 dl14 dl24 x31 x32 dl46) = true := hgo.1
     rw [q476]
     refine Fq (.bool false) (r_not (b := true) rfl ek rfl) ?_
     refine Fv (.bool false) ?_
     refine Fv (.int .i64 (GentlestPlan_v1 m10 dl14 dl24 x31 x32 dl46)) ?_
     refine Fv (.int .i64 (HarmOf_v0 m10 dl14 dl24 x31 x32 dl36 dl46)) ?_
     refine Fq (.bool false) (r_gtr (m := (GentlestPlan_v1 m10 dl14 dl24 x31 x32 dl46)) (n := (HarmOf_v0 m10 dl14 dl24 x31 x32 dl36 dl46)) rfl ek ek (df (by have h9 := hgo.2.1; omega))) ?_
     refine Fq (.bool false) (r_pick (b := false) rfl ek ek) ?_
     refine Fv (.bool false) ?_
     refine Fv (.bool (HarmOf_v1 m10 dl14 dl24 x31 x32 (GentlestPlan_v0 m10 dl14 dl24 x31 x32 dl46) dl46)) ?_
     have q477 : (HarmOf_v1 m10 dl14 dl24 x31 x32 (GentlestPlan_v0 m10 dl14 dl24 x31 x32 dl46) dl46) = true := hgo.2.2.1
     rw [q477]
     refine Fq (.bool false) (r_not (b := true) rfl ek rfl) ?_
     refine Fq (.bool false) (r_pick (b := false) rfl ek ek) ?_
     refine Fv (.bool false) ?_
     refine Fv (.int .i64 (HarmOf_v0 m10 dl14 dl24 x31 x32 (GentlestPlan_v0 m10 dl14 dl24 x31 x32 dl46) dl46)) ?_
     refine Fv (.int .i64 (GentlestPlan_v1 m10 dl14 dl24 x31 x32 dl46)) ?_
     refine Fq (.bool false) (r_neq (m := (HarmOf_v0 m10 dl14 dl24 x31 x32 (GentlestPlan_v0 m10 dl14 dl24 x31 x32 dl46) dl46)) (n := (GentlestPlan_v1 m10 dl14 dl24 x31 x32 dl46)) rfl ek ek (df (fun h9 => h9 hgo.2.2.2))) ?_
     refine Fq (.bool false) (r_pick (b := false) rfl ek ek) ?_
     apply F.es
     apply h28
     refine wp_cond_false ek ?_
     apply wp_skip
     exact h24 _ _ _ ⟨Kn.of, rfl, c470⟩
   rw [q448]
   refine wp_cond_false ek ?_
   apply wp_skip
   exact h24 _ _ _ ⟨Kn.of, rfl, c93⟩
theorem byte_of {n : Int} (h : (Lit.int .u8 n).wf = true) : 0 ≤ n ∧ n < 256 := by
  have h2 : (decide ((0 : Int) ≤ n) && decide (n ≤ 255)) = true := h
  simp only [Bool.and_eq_true, decide_eq_true_eq] at h2
  omega
theorem w_FnHarm (x0 : Option Addr) (n0 p0 : Nat) (a0 : List Int) (w : World) (H0 : a0.length = n0 ∧ Rd w 1 x0 n0 (a0.map (Value.int .u8)) ∧ n0 ≤ maxLen ∧ ∀ n ∈ a0, (Lit.int .u8 n).wf = true) :
    Calls Try.prog 7 #[.slice x0 n0 p0] w fun e w' => e = .returned (.bool true) ∧ Below w.heap.size w w' :=
  wi_FnHarm x0 n0 p0 a0 w H0.2.1 (fun z hz => byte_of (H0.2.2.2 z hz)) (by have := H0.2.2.1; unfold maxLen at this; omega)
end Go.Proofs.Ytdbgfejeleafgaa
namespace Go.Proofs.Ytdbgfejeleafgaa
open Go.RowKit Go.ChangeShapes Go.WideShapes Go.Deep Go.Joins
set_option linter.unusedVariables false
section
variable {H : Type} {enc : TypeId × Value → H} {P : Program} {w : World} {base : Nat} {spare : Nat → Bool} {held : Bool}
theorem addr_form {a : Addr} {u : Value} (h : w.cell? (a.add 0) = some u) : ∃ b off, a = ⟨b, off, none⟩ ∧ b < w.heap.size := by
  obtain ⟨b, off, spot⟩ := a
  have e : (⟨b, off, spot⟩ : Addr).add 0 = ⟨b, off, spot⟩ := by simp [Addr.add]
  rw [e] at h
  have hs : spot = none := World.cell?_spot h
  subst hs
  exact ⟨b, off, rfl, World.block_lt_of_cell? w _ h⟩
theorem add_form (b off j : Nat) : (⟨b, off, none⟩ : Addr).add j = ⟨b, off + j, none⟩ := by
  unfold Addr.add
  by_cases h : j = 0
  · subst h; simp
  · simp [h]
theorem open_nums {t e : TypeId} {k : IntKind} {A : Option Addr} {len cap : Nat} {d : DataW H} {p : List MemPlace} (ht : P.underlying t = some (.slice e)) (he : P.underlying e = some (.int k)) (hc : P.cellsOf e = 1)
    (h : DataW.Trod enc P w base spare held t (.slice A len cap) d p) :
    ∃ zs : List Int, zs.length = len ∧ Rd w 1 A len (zs.map (Value.int k)) ∧ len ≤ maxLen ∧ ∀ n ∈ zs, (Lit.int k n).wf = true := by
  obtain ⟨fuel, hf⟩ := h
  rcases open_ints ht he hc hf with ⟨hcs, _⟩ | ⟨x, l, c, zs, hcs, _, hl, hm, hz, _, hcell, hwz⟩
  · simp [Value.cells] at hcs
    obtain ⟨rfl, rfl, rfl⟩ := hcs
    exact ⟨[], rfl, Rd.nil, Nat.zero_le _, fun n hn => by cases hn⟩
  · simp [Value.cells] at hcs
    obtain ⟨rfl, rfl, rfl⟩ := hcs
    have hle : len ≤ zs.length := by rw [hz]; split <;> omega
    refine ⟨zs.take len, by simp; omega, ⟨by simp; omega, fun hn => ?_⟩, by omega, fun n hn => hwz n (List.mem_of_mem_take hn)⟩
    obtain ⟨b, off, rfl, hb⟩ := addr_form (hcell 0 (by omega))
    refine ⟨b, off, rfl, hb, fun j u hu => ?_⟩
    rw [List.getElem?_map, List.getElem?_take] at hu
    split at hu
    · rename_i hj
      have := hcell j (by omega)
      rw [add_form] at this
      rw [this]
      rw [List.getElem?_eq_getElem (by omega)] at hu
      simp at hu
      rw [← hu, List.getD_eq_getElem?_getD, List.getElem?_eq_getElem (by omega)]; rfl
    · simp at hu
end
end Go.Proofs.Ytdbgfejeleafgaa
