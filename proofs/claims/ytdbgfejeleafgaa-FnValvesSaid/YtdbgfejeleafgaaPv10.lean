/- What the texts behind it build on; conditions: none. -/
import Derived.Test.YtdbgfejeleafgaaPv9
import Derived.Test.YtdbgfejeleafgaaRows
import Derived.ProofKit
import Derived.OpenShut
import Derived.Lib.SmallJoins
import Derived.Deep.Slices
import Derived.Deep.Fields
namespace Go.Proofs.Ytdbgfejeleafgaa
open Go.RowKit
set_option linter.unusedVariables false
set_option linter.unusedSimpArgs false
theorem vValves_same2 (A B : Option Addr) (n n2 c d : Nat) (zs : List Vv) (w : World) (ha : Rd w 4 A n (valvesV zs)) (hb : Rd w 4 B n2 (valvesV zs)) (hn : n ≤ 9223372036854775807) :
    Calls Try.prog 26 #[.slice A n c, .slice B n2 d] w fun e w' => e = .returned (.bool true) ∧ Below w.heap.size w w' := by
  obtain rfl : n2 = n := by have := rd_valves_len ha; have := rd_valves_len hb; omega
  exact vValves_same A B n2 c d zs w ha hb hn
theorem around_ok {m : Int} {ps : List Pp} {vs : List Vv} {i : Nat} {p : Pp} (h : NeedlessValves_v1 m ps vs = true) (hp : ps[i]? = some p) : ValvesAround_v1 m ps vs p.id = true := by
  have hg : goodV m ps vs = true := h
  have hf := find_own (goodV_of hg).net hp
  show (goodV m ps vs && decide (0 ≤ findL ps p.id)) = true
  rw [hg, hf, decide_eq_true (by omega)]; rfl
theorem cnt_fact {m : Int} {ps : List Pp} {vs : List Vv} (h : NeedlessValves_v1 m ps vs = true) : 1 ≤ CountSegments_v0 m ps vs ∧ CountSegments_v0 m ps vs ≤ m + ((ps.length : Nat) : Int) := by
  have hg : goodV m ps vs = true := h
  have hm := (goodV_of hg).net.lo
  have e : CountSegments_v0 m ps vs = ((cntS (linked ps (openQ vs false)) m.toNat ps.length (9 + ps.length) : Nat) : Int) := if_pos hg
  have hc := cnt_bd (E := linked ps (openQ vs false)) (m := m.toNat) (k := ps.length) (by omega)
  rw [e]; omega
set_option maxRecDepth 100000 in
set_option maxHeartbeats 8000000 in
theorem wi_FnValves (A : Option Addr) (n c : Nat) (zs : List Int) (w : World) (hcode : Rd w 1 A n (bytesV zs)) (hz : ∀ z ∈ zs, 0 ≤ z ∧ z < 256) (hn : n ≤ 9223372036854775807) :
    Calls Try.prog 4 #[.slice A n c] w fun e w' => e = .returned (.bool true) ∧ Below w.heap.size w w' := by
 have hl := rd_bytes_len hcode
 go_enter Try.func4, Try.ntmps4
 refine F.begin 253 [(0, .slice A n c)] (fun U0 => ?_)
 refine wk fun K1 h1 => ?_
 refine W.region_quiet [(0, false)] kk ?_
 refine Fa (.bool false) ?_
 refine F.es ?_
 refine h1 _ _ ?_
 refine wk fun K2 h2 => ?_
 refine wk fun K3 h3 => ?_
 refine W.region_plain (row := none) [(0, false), (1, true)] kk ?_
 have s1 := SG.self w none
 refine Fv (.slice A n c) ?_
 refine Fc [.slice A n c] (vBig_any A n c zs _ (Rd.kept hcode (SG.belowR (Below.refl _ _) s1 (fun kq e => by cases e))) hz hn) ?_
 rintro e w3 ⟨rfl, b2⟩
 have s4 := SG.of_below s1 b2
 refine ⟨_, rfl, s4, ?_⟩
 refine F.nx ?_
 rcases Bool.eq_false_or_eq_true (decide (65536 < n)) with q5 | q5
 ·rw [q5]
  refine F.es ?_
  have c6 := (SG.belowR (Below.refl _ _) s4 (fun kq e => by cases e))
  refine h3 _ _ ?_
  refine wp_cond_true ek ?_
  refine wk fun K4 h4 => ?_
  refine W.region_quiet [(0, false)] kk ?_
  refine Fa (.bool true) ?_
  refine F.es ?_
  refine h4 _ _ ?_
  refine wp_ret ?_
  try simp only [Exit.then]
  refine ret1 (v := .bool true) rfl kk ?_
  exact ⟨rfl, c6⟩
 rw [q5]
 refine F.es ?_
 have c7 := (SG.belowR (Below.refl _ _) s4 (fun kq e => by cases e))
 refine h3 _ _ ?_
 refine wp_cond_false ek ?_
 refine wp_skip ?_
 refine h2 _ _ ?_
 refine wk fun K5 h5 => ?_
 refine W.region_plain (row := none) [(0, false), (1, true), (2, false), (3, false), (4, false), (5, false), (6, false), (7, true), (8, true), (9, false), (10, false), (11, false)] kk ?_
 have s8 := SG.self w3 none
 refine Fv (.slice A n c) ?_
 have z9 := ((SG.belowR c7 s8 (fun kq e => by cases e))).size
 refine Fc [.slice A n c] (DrawTurnValve_any A n c zs _ (Rd.kept hcode (SG.belowR c7 s8 (fun kq e => by cases e))) hz (by have h9 := of_decide_eq_false q5; omega)) ?_
 rintro e w34 ⟨m10, A11, n12, c13, dl14, A21, n22, c23, dl24, x31, x32, rfl, ⟨⟨rd15, fm16, fr20⟩, hsm17⟩, ⟨⟨rd25, fm26, fr30⟩, hsm27⟩, b33⟩
 have s35 := SG.of_below s8 b33
 refine ⟨_, rfl, s35, ?_⟩
 refine F.nx ?_
 have hl18 := rd_pipes_len rd15
 have hsm17m := hsm17.1
 have hsm17n := hsm17.2.1
 have hl28 := rd_valves_len rd25
 refine Fv (.tuple #[.agg #[.int .i64 m10, .slice A11 n12 c13], .slice A21 n22 c23, .int .i64 x31, .bool x32]) ?_
 refine Fq (.agg #[.int .i64 m10, .slice A11 n12 c13]) (r_extract (vs := #[.agg #[.int .i64 m10, .slice A11 n12 c13], .slice A21 n22 c23, .int .i64 x31, .bool x32]) rfl ek kk) ?_
 refine Fq (.slice A21 n22 c23) (r_extract (vs := #[.agg #[.int .i64 m10, .slice A11 n12 c13], .slice A21 n22 c23, .int .i64 x31, .bool x32]) rfl ek kk) ?_
 refine Fq (.int .i64 x31) (r_extract (vs := #[.agg #[.int .i64 m10, .slice A11 n12 c13], .slice A21 n22 c23, .int .i64 x31, .bool x32]) rfl ek kk) ?_
 refine Fq (.bool x32) (r_extract (vs := #[.agg #[.int .i64 m10, .slice A11 n12 c13], .slice A21 n22 c23, .int .i64 x31, .bool x32]) rfl ek kk) ?_
 refine W.sn (fun b => .pointer (some ⟨b, 0, none⟩)) #[.int .i64 0, .slice none 0 0] 26 s35 rfl kk rfl (fun _ => by kernel_rfl) (fun b36 w37 hb38 k39 x40 s41 => ?_)
 refine F.nx ?_
 have lo42 : w.heap.size ≤ b36 := Nat.le_trans ((SG.belowR c7 s35 (fun kq e => by cases e))).size (Nat.le_of_eq hb38)
 have sp43 : Sp A11 n12 (some b36) := sp_new rd15 (by have := hb38; omega)
 have sp44 : Sp A21 n22 (some b36) := sp_new rd25 (by have := hb38; omega)
 have rd45 := Rd.kept rd15 k39
 have rd46 := Rd.kept rd25 k39
 refine W.ss (v := .agg #[.int .i64 m10, .slice A11 n12 c13]) (j := 0) (news := [.int .i64 m10, .slice A11 n12 c13]) (cs' := #[.int .i64 m10, .slice A11 n12 c13]) s41 rfl kk rfl rfl kk kk x40 kk kk (by simp) kk kk (.inr (Nat.le_trans (s35).size (Nat.le_of_eq hb38))) (fun w47 g48 x49 s50 => ?_)
 have rd51 := rd_sepG rd45 g48 sp43
 have rd52 := rd_sepG rd46 g48 sp44
 refine Fa (.slice A21 n22 c23) ?_
 refine Fa (.int .i64 x31) ?_
 refine Fa (.bool x32) ?_
 refine F.es ?_
 have c53 := (SG.belowR c7 s50 (fun kq e => by cases e))
 refine h5 _ _ ?_
 as_aux_lemma =>
  refine wk fun K6 h6 => ?_
  refine W.region_plain (row := none) [(0, false), (1, false), (2, false), (3, false), (4, true), (5, false), (6, false), (7, false), (8, false), (9, false)] kk ?_
  have s54 := SG.self w47 none
  refine Fq (.agg #[.int .i64 m10, .slice A11 n12 c13]) (r_load2 rfl ek kk kk (sgS (blk_cell (j := 0) x49 kk) (Option.some_ne_none _)) (sgS (blk_cell (j := 1) x49 kk) (Option.some_ne_none _))) ?_
  refine Fv (.slice A21 n22 c23) ?_
  refine Fv (.int .i64 x31) ?_
  refine Fv (.bool x32) ?_
  refine Fc [.agg #[.int .i64 m10, .slice A11 n12 c13], .slice A21 n22 c23, .int .i64 x31, .bool x32] (TurnValve_impl m10 A11 n12 c13 dl14 A21 n22 c23 dl24 x31 x32 w47 (Rd.kept rd51 (SG.below s54)) (Rd.kept rd52 (SG.below s54)) (by omega) (by omega) fm16 fm26) ?_
  rintro e w63 ⟨A55, d56, rfl, r57, b62⟩
  have s64 := SG.of_below s54 b62
  refine ⟨_, rfl, s64, ?_⟩
  refine F.nx ?_
  have rd58 := own_rd r57
  have fm59 := own_fm r57
  have hl60 : (TurnValve_v0 m10 dl14 dl24 x31 x32).length = (TurnValve_v0 m10 dl14 dl24 x31 x32).length := rfl
  have hb65 := TurnValve_len m10 dl14 dl24 x31 x32
  refine Fv (.tuple #[.slice A55 ((TurnValve_v0 m10 dl14 dl24 x31 x32).length) d56, .bool (TurnValve_v1 m10 dl14 dl24 x31 x32)]) ?_
  refine Fq (.slice A55 ((TurnValve_v0 m10 dl14 dl24 x31 x32).length) d56) (r_extract (vs := #[.slice A55 ((TurnValve_v0 m10 dl14 dl24 x31 x32).length) d56, .bool (TurnValve_v1 m10 dl14 dl24 x31 x32)]) rfl ek kk) ?_
  refine Fq (.bool (TurnValve_v1 m10 dl14 dl24 x31 x32)) (r_extract (vs := #[.slice A55 ((TurnValve_v0 m10 dl14 dl24 x31 x32).length) d56, .bool (TurnValve_v1 m10 dl14 dl24 x31 x32)]) rfl ek kk) ?_
  refine Fa (.slice A55 ((TurnValve_v0 m10 dl14 dl24 x31 x32).length) d56) ?_
  refine Fa (.bool (TurnValve_v1 m10 dl14 dl24 x31 x32)) ?_
  refine F.es ?_
  have x49 := SG.blk s64 x49 (Option.some_ne_none _)
  have c66 := (SG.belowR c53 s64 (fun kq e => by cases e))
  have rd67 := Rd.kept rd51 (SG.below s64)
  have rd68 := Rd.kept rd52 (SG.below s64)
  refine h6 _ _ ?_
  refine wk fun K7 h7 => ?_
  refine wk fun K8 h8 => ?_
  refine W.region_plain (row := none) [(0, false), (1, false), (2, false), (3, false), (4, true), (5, false), (6, false), (7, false), (8, false), (9, false)] kk ?_
  have s69 := SG.self w63 none
  refine Fq (.agg #[.int .i64 m10, .slice A11 n12 c13]) (r_load2 rfl ek kk kk (sgS (blk_cell (j := 0) x49 kk) (Option.some_ne_none _)) (sgS (blk_cell (j := 1) x49 kk) (Option.some_ne_none _))) ?_
  refine Fv (.slice A21 n22 c23) ?_
  refine Fv (.int .i64 x31) ?_
  refine Fv (.bool x32) ?_
  refine Fc [.agg #[.int .i64 m10, .slice A11 n12 c13], .slice A21 n22 c23, .int .i64 x31, .bool x32] (TurnValve_spec m10 A11 n12 c13 dl14 A21 n22 c23 dl24 x31 x32 w63 (Rd.kept rd67 (SG.below s69)) (Rd.kept rd68 (SG.below s69)) (by omega) (by omega) fm16 fm26) ?_
  rintro e w78 ⟨A70, d71, rfl, r72, b77⟩
  have s79 := SG.of_below s69 b77
  refine ⟨_, rfl, s79, ?_⟩
  refine F.nx ?_
  have rd73 := own_rd r72
  have hl75 : (TurnValve_v0 m10 dl14 dl24 x31 x32).length = (TurnValve_v0 m10 dl14 dl24 x31 x32).length := rfl
  have hb80 := TurnValve_len m10 dl14 dl24 x31 x32
  refine Fv (.tuple #[.slice A70 ((TurnValve_v0 m10 dl14 dl24 x31 x32).length) d71, .bool (TurnValve_v1 m10 dl14 dl24 x31 x32)]) ?_
  refine Fq (.slice A70 ((TurnValve_v0 m10 dl14 dl24 x31 x32).length) d71) (r_extract (vs := #[.slice A70 ((TurnValve_v0 m10 dl14 dl24 x31 x32).length) d71, .bool (TurnValve_v1 m10 dl14 dl24 x31 x32)]) rfl ek kk) ?_
  refine Fq (.bool (TurnValve_v1 m10 dl14 dl24 x31 x32)) (r_extract (vs := #[.slice A70 ((TurnValve_v0 m10 dl14 dl24 x31 x32).length) d71, .bool (TurnValve_v1 m10 dl14 dl24 x31 x32)]) rfl ek kk) ?_
  refine Fa (.slice A70 ((TurnValve_v0 m10 dl14 dl24 x31 x32).length) d71) ?_
  refine Fa (.bool (TurnValve_v1 m10 dl14 dl24 x31 x32)) ?_
  refine F.es ?_
  have x49 := SG.blk s79 x49 (Option.some_ne_none _)
  have c81 := (SG.belowR c66 s79 (fun kq e => by cases e))
  have rd82 := Rd.kept rd67 (SG.below s79)
  have rd83 := Rd.kept rd68 (SG.below s79)
  have rd84 := Rd.kept rd58 (SG.below s79)
  refine h8 _ _ ?_
  refine wk fun K9 h9 => ?_
  refine W.region_plain (row := none) [(0, false), (1, false), (2, false), (3, false), (4, false), (5, false), (6, true), (7, false), (8, false)] kk ?_
  have s85 := SG.self w78 none
  refine Fv (.bool (TurnValve_v1 m10 dl14 dl24 x31 x32)) ?_
  refine Fv (.bool (TurnValve_v1 m10 dl14 dl24 x31 x32)) ?_
  refine Fq (.bool false) (r_neqB (m := (TurnValve_v1 m10 dl14 dl24 x31 x32)) (n := (TurnValve_v1 m10 dl14 dl24 x31 x32)) rfl ek ek kk (by rw [show ((TurnValve_v1 m10 dl14 dl24 x31 x32) == (TurnValve_v1 m10 dl14 dl24 x31 x32)) = true from beq_iff_eq.2 rfl]; try rfl)) ?_
  refine Fv (.bool false) ?_
  refine Fv (.slice A55 ((TurnValve_v0 m10 dl14 dl24 x31 x32).length) d56) ?_
  refine Fv (.slice A70 ((TurnValve_v0 m10 dl14 dl24 x31 x32).length) d71) ?_
  refine Fc [.slice A55 ((TurnValve_v0 m10 dl14 dl24 x31 x32).length) d56, .slice A70 ((TurnValve_v0 m10 dl14 dl24 x31 x32).length) d71] (vValves_same A55 A70 ((TurnValve_v0 m10 dl14 dl24 x31 x32).length) d56 d71 (TurnValve_v0 m10 dl14 dl24 x31 x32) _ (Rd.kept rd84 (SG.below s85)) (Rd.kept rd73 (SG.below s85)) (by omega)) ?_
  rintro e w87 ⟨rfl, b86⟩
  have s88 := SG.of_below s85 b86
  refine ⟨_, rfl, s88, ?_⟩
  refine F.nx ?_
  refine Fq (.bool false) (r_not (b := true) rfl ek rfl) ?_
  refine Fq (.bool false) (r_pick (b := false) rfl ek ek) ?_
  refine F.es ?_
  have x49 := SG.blk s88 x49 (Option.some_ne_none _)
  have c89 := (SG.belowR c81 s88 (fun kq e => by cases e))
  have rd90 := Rd.kept rd82 (SG.below s88)
  have rd91 := Rd.kept rd83 (SG.below s88)
  have rd92 := Rd.kept rd84 (SG.below s88)
  refine h9 _ _ ?_
  as_aux_lemma =>
   refine wp_cond_false ek ?_
   refine wp_skip ?_
   refine h7 _ _ ?_
   refine joinK (fun amj1 aaj1 wlj1 => Kn aaj1 [(0, .slice A n c), (2, .bool false)] 253 ∧ (amj1 = 0) ∧ (Below w.heap.size w wlj1)) ?_ ?_
   ·rintro amj1 aaj1 wlj1 ⟨⟨Uj1, rfl⟩, rfl, c94⟩
    refine wk fun K10 h10 => ?_
    refine W.region_plain (row := none) [(0, false), (1, true), (2, false), (3, false), (4, false), (5, false), (6, true), (7, true), (8, false), (9, false)] kk ?_
    have s95 := SG.self wlj1 none
    refine Fv (.slice A n c) ?_
    have z96 := ((SG.belowR c94 s95 (fun kq e => by cases e))).size
    refine Fc [.slice A n c] (DrawDryNodes_any A n c zs _ (Rd.kept hcode (SG.belowR c94 s95 (fun kq e => by cases e))) hz (by have h9 := of_decide_eq_false q5; omega)) ?_
    rintro e w120 ⟨m97, A98, n99, c100, dl101, A108, n109, c110, dl111, x118, rfl, ⟨⟨rd102, fm103, fr107⟩, hsm104⟩, ⟨⟨rd112, fm113, fr117⟩, hsm114⟩, b119⟩
    have s121 := SG.of_below s95 b119
    refine ⟨_, rfl, s121, ?_⟩
    refine F.nx ?_
    have hl105 := rd_pipes_len rd102
    have hsm104m := hsm104.1
    have hsm104n := hsm104.2.1
    have hl115 := rd_valves_len rd112
    refine Fv (.tuple #[.agg #[.int .i64 m97, .slice A98 n99 c100], .slice A108 n109 c110, .int .i64 x118]) ?_
    refine Fq (.agg #[.int .i64 m97, .slice A98 n99 c100]) (r_extract (vs := #[.agg #[.int .i64 m97, .slice A98 n99 c100], .slice A108 n109 c110, .int .i64 x118]) rfl ek kk) ?_
    refine Fq (.slice A108 n109 c110) (r_extract (vs := #[.agg #[.int .i64 m97, .slice A98 n99 c100], .slice A108 n109 c110, .int .i64 x118]) rfl ek kk) ?_
    refine Fq (.int .i64 x118) (r_extract (vs := #[.agg #[.int .i64 m97, .slice A98 n99 c100], .slice A108 n109 c110, .int .i64 x118]) rfl ek kk) ?_
    refine W.sn (fun b => .pointer (some ⟨b, 0, none⟩)) #[.int .i64 0, .slice none 0 0] 26 s121 rfl kk rfl (fun _ => by kernel_rfl) (fun b122 w123 hb124 k125 x126 s127 => ?_)
    refine F.nx ?_
    have lo128 : w.heap.size ≤ b122 := Nat.le_trans ((SG.belowR c94 s121 (fun kq e => by cases e))).size (Nat.le_of_eq hb124)
    have sp129 : Sp A98 n99 (some b122) := sp_new rd102 (by have := hb124; omega)
    have sp130 : Sp A108 n109 (some b122) := sp_new rd112 (by have := hb124; omega)
    have rd131 := Rd.kept rd102 k125
    have rd132 := Rd.kept rd112 k125
    refine W.ss (v := .agg #[.int .i64 m97, .slice A98 n99 c100]) (j := 0) (news := [.int .i64 m97, .slice A98 n99 c100]) (cs' := #[.int .i64 m97, .slice A98 n99 c100]) s127 rfl kk rfl rfl kk kk x126 kk kk (by simp) kk kk (.inr (Nat.le_trans (s121).size (Nat.le_of_eq hb124))) (fun w133 g134 x135 s136 => ?_)
    have rd137 := rd_sepG rd131 g134 sp129
    have rd138 := rd_sepG rd132 g134 sp130
    refine Fa (.slice A108 n109 c110) ?_
    refine Fa (.int .i64 x118) ?_
    refine F.es ?_
    have c139 := (SG.belowR c94 s136 (fun kq e => by cases e))
    refine h10 _ _ ?_
    refine wk fun K11 h11 => ?_
    refine W.region_plain (row := none) [(0, false), (1, false), (2, false), (3, true), (4, false), (5, false), (6, false), (7, false), (8, false)] kk ?_
    have s140 := SG.self w133 none
    refine Fq (.agg #[.int .i64 m97, .slice A98 n99 c100]) (r_load2 rfl ek kk kk (sgS (blk_cell (j := 0) x135 kk) (Option.some_ne_none _)) (sgS (blk_cell (j := 1) x135 kk) (Option.some_ne_none _))) ?_
    refine Fv (.slice A108 n109 c110) ?_
    refine Fv (.int .i64 x118) ?_
    refine Fc [.agg #[.int .i64 m97, .slice A98 n99 c100], .slice A108 n109 c110, .int .i64 x118] (DryNodes_impl m97 A98 n99 c100 dl101 A108 n109 c110 dl111 x118 w133 (Rd.kept rd137 (SG.below s140)) (Rd.kept rd138 (SG.below s140)) (by omega) (by omega) fm103 fm113) ?_
    rintro e w149 ⟨A141, d142, rfl, r143, b148⟩
    have s150 := SG.of_below s140 b148
    refine ⟨_, rfl, s150, ?_⟩
    refine F.nx ?_
    have rd144 := own_rd r143
    have hl146 : (DryNodes_v0 m97 dl101 dl111 x118).length = (DryNodes_v0 m97 dl101 dl111 x118).length := rfl
    have hb151 := DryNodes_len m97 dl101 dl111 x118
    refine Fv (.tuple #[.slice A141 ((DryNodes_v0 m97 dl101 dl111 x118).length) d142, .bool (DryNodes_v1 m97 dl101 dl111 x118)]) ?_
    refine Fq (.slice A141 ((DryNodes_v0 m97 dl101 dl111 x118).length) d142) (r_extract (vs := #[.slice A141 ((DryNodes_v0 m97 dl101 dl111 x118).length) d142, .bool (DryNodes_v1 m97 dl101 dl111 x118)]) rfl ek kk) ?_
    refine Fq (.bool (DryNodes_v1 m97 dl101 dl111 x118)) (r_extract (vs := #[.slice A141 ((DryNodes_v0 m97 dl101 dl111 x118).length) d142, .bool (DryNodes_v1 m97 dl101 dl111 x118)]) rfl ek kk) ?_
    refine Fa (.slice A141 ((DryNodes_v0 m97 dl101 dl111 x118).length) d142) ?_
    refine Fa (.bool (DryNodes_v1 m97 dl101 dl111 x118)) ?_
    refine F.es ?_
    have x135 := SG.blk s150 x135 (Option.some_ne_none _)
    have c152 := (SG.belowR c139 s150 (fun kq e => by cases e))
    have rd153 := Rd.kept rd137 (SG.below s150)
    have rd154 := Rd.kept rd138 (SG.below s150)
    refine h11 _ _ ?_
    as_aux_lemma =>
     refine wk fun K12 h12 => ?_
     refine wk fun K13 h13 => ?_
     refine W.region_plain (row := none) [(0, false), (1, false), (2, false), (3, true), (4, false), (5, false), (6, false), (7, false), (8, false)] kk ?_
     have s155 := SG.self w149 none
     refine Fq (.agg #[.int .i64 m97, .slice A98 n99 c100]) (r_load2 rfl ek kk kk (sgS (blk_cell (j := 0) x135 kk) (Option.some_ne_none _)) (sgS (blk_cell (j := 1) x135 kk) (Option.some_ne_none _))) ?_
     refine Fv (.slice A108 n109 c110) ?_
     refine Fv (.int .i64 x118) ?_
     refine Fc [.agg #[.int .i64 m97, .slice A98 n99 c100], .slice A108 n109 c110, .int .i64 x118] (DryNodes_spec m97 A98 n99 c100 dl101 A108 n109 c110 dl111 x118 w149 (Rd.kept rd153 (SG.below s155)) (Rd.kept rd154 (SG.below s155)) (by omega) (by omega) fm103 fm113) ?_
     rintro e w164 ⟨A156, d157, rfl, r158, b163⟩
     have s165 := SG.of_below s155 b163
     refine ⟨_, rfl, s165, ?_⟩
     refine F.nx ?_
     have hl161 : (DryNodes_v0 m97 dl101 dl111 x118).length = (DryNodes_v0 m97 dl101 dl111 x118).length := rfl
     refine Fv (.tuple #[.slice A156 ((DryNodes_v0 m97 dl101 dl111 x118).length) d157, .bool (DryNodes_v1 m97 dl101 dl111 x118)]) ?_
     refine Fq (.slice A156 ((DryNodes_v0 m97 dl101 dl111 x118).length) d157) (r_extract (vs := #[.slice A156 ((DryNodes_v0 m97 dl101 dl111 x118).length) d157, .bool (DryNodes_v1 m97 dl101 dl111 x118)]) rfl ek kk) ?_
     refine Fq (.bool (DryNodes_v1 m97 dl101 dl111 x118)) (r_extract (vs := #[.slice A156 ((DryNodes_v0 m97 dl101 dl111 x118).length) d157, .bool (DryNodes_v1 m97 dl101 dl111 x118)]) rfl ek kk) ?_
     refine Fa (.slice A156 ((DryNodes_v0 m97 dl101 dl111 x118).length) d157) ?_
     refine Fa (.bool (DryNodes_v1 m97 dl101 dl111 x118)) ?_
     refine F.es ?_
     have x135 := SG.blk s165 x135 (Option.some_ne_none _)
     have c166 := (SG.belowR c152 s165 (fun kq e => by cases e))
     have rd167 := Rd.kept rd153 (SG.below s165)
     have rd168 := Rd.kept rd154 (SG.below s165)
     have rd169 := Rd.kept rd144 (SG.below s165)
     refine h13 _ _ ?_
     refine wk fun K14 h14 => ?_
     refine W.region_plain (row := none) [(0, false), (1, false), (2, false), (3, false), (4, false), (5, false), (6, true), (7, false), (8, false), (9, false), (10, false), (11, false), (12, false), (13, false), (14, true), (15, false), (16, false)] kk ?_
     have s170 := SG.self w164 none
     refine Fv (.bool (DryNodes_v1 m97 dl101 dl111 x118)) ?_
     refine Fv (.bool (DryNodes_v1 m97 dl101 dl111 x118)) ?_
     refine Fq (.bool false) (r_neqB (m := (DryNodes_v1 m97 dl101 dl111 x118)) (n := (DryNodes_v1 m97 dl101 dl111 x118)) rfl ek ek kk (by rw [show ((DryNodes_v1 m97 dl101 dl111 x118) == (DryNodes_v1 m97 dl101 dl111 x118)) = true from beq_iff_eq.2 rfl]; try rfl)) ?_
     refine Fv (.bool false) ?_
     refine Fv (.slice A141 ((DryNodes_v0 m97 dl101 dl111 x118).length) d142) ?_
     refine Fv (.slice A156 ((DryNodes_v0 m97 dl101 dl111 x118).length) d157) ?_
     refine Fc [.slice A141 ((DryNodes_v0 m97 dl101 dl111 x118).length) d142, .slice A156 ((DryNodes_v0 m97 dl101 dl111 x118).length) d157] (vInts_same A141 A156 ((DryNodes_v0 m97 dl101 dl111 x118).length) d142 d157 (DryNodes_v0 m97 dl101 dl111 x118) _ (Rd.kept rd169 (SG.below s170)) (Rd.kept r158 (SG.below s170)) (by omega)) ?_
     rintro e w172 ⟨rfl, b171⟩
     have s173 := SG.of_below s170 b171
     refine ⟨_, rfl, s173, ?_⟩
     refine F.nx ?_
     refine Fq (.bool false) (r_not (b := true) rfl ek rfl) ?_
     refine Fq (.bool false) (r_pick (b := false) rfl ek ek) ?_
     refine Fv (.bool false) ?_
     refine Fv (.bool (DryNodes_v1 m97 dl101 dl111 x118)) ?_
     refine Fv (.bool (DryNodes_v1 m97 dl101 dl111 x118)) ?_
     rcases Bool.eq_false_or_eq_true (DryNodes_v1 m97 dl101 dl111 x118) with q174 | q174
     ·rw [q174]
      refine Fv (.slice A141 ((DryNodes_v0 m97 dl101 dl111 x118).length) d142) ?_
      refine Fv (.int .i64 x118) ?_
      refine Fc [.slice A141 ((DryNodes_v0 m97 dl101 dl111 x118).length) d142, .int .i64 x118] (vHas_any A141 ((DryNodes_v0 m97 dl101 dl111 x118).length) d142 (DryNodes_v0 m97 dl101 dl111 x118) x118 _ (Rd.kept rd169 (SG.below s173)) (by omega)) ?_
      rintro e w176 ⟨rfl, b175⟩
      have s177 := SG.of_below s173 b175
      refine ⟨_, rfl, s177, ?_⟩
      refine F.nx ?_
      have q178 : ((DryNodes_v0 m97 dl101 dl111 x118).contains x118) = false := source_wet
      rw [q178]
      refine Fq (.bool false) (r_pick (b := true) rfl ek ek) ?_
      refine Fq (.bool false) (r_pick (b := false) rfl ek ek) ?_
      refine F.es ?_
      have x135 := SG.blk s177 x135 (Option.some_ne_none _)
      have c179 := (SG.belowR c166 s177 (fun kq e => by cases e))
      have rd180 := Rd.kept rd167 (SG.below s177)
      have rd181 := Rd.kept rd168 (SG.below s177)
      refine h14 _ _ ?_
      as_aux_lemma =>
       refine wp_cond_false ek ?_
       refine wp_skip ?_
       refine h12 _ _ ?_
       refine wk fun K15 h15 => ?_
       refine W.region_plain (row := none) [(0, false), (1, false), (2, false), (3, true), (4, false), (5, false), (6, false), (7, false), (8, false)] kk ?_
       have s184 := SG.self w176 none
       refine Fq (.agg #[.int .i64 m97, .slice A98 n99 c100]) (r_load2 rfl ek kk kk (sgS (blk_cell (j := 0) x135 kk) (Option.some_ne_none _)) (sgS (blk_cell (j := 1) x135 kk) (Option.some_ne_none _))) ?_
       refine Fv (.slice A108 n109 c110) ?_
       refine Fv (.int .i64 x118) ?_
       refine Fc [.agg #[.int .i64 m97, .slice A98 n99 c100], .slice A108 n109 c110, .int .i64 x118] (DryPipes_impl m97 A98 n99 c100 dl101 A108 n109 c110 dl111 x118 w176 (Rd.kept rd180 (SG.below s184)) (Rd.kept rd181 (SG.below s184)) (by omega) (by omega) fm103 fm113) ?_
       rintro e w193 ⟨A185, d186, rfl, r187, b192⟩
       have s194 := SG.of_below s184 b192
       refine ⟨_, rfl, s194, ?_⟩
       refine F.nx ?_
       have rd188 := own_rd r187
       have hl190 : (DryPipes_v0 m97 dl101 dl111 x118).length = (DryPipes_v0 m97 dl101 dl111 x118).length := rfl
       have hb195 := DryPipes_len m97 dl101 dl111 x118
       refine Fv (.tuple #[.slice A185 ((DryPipes_v0 m97 dl101 dl111 x118).length) d186, .bool (DryPipes_v1 m97 dl101 dl111 x118)]) ?_
       refine Fq (.slice A185 ((DryPipes_v0 m97 dl101 dl111 x118).length) d186) (r_extract (vs := #[.slice A185 ((DryPipes_v0 m97 dl101 dl111 x118).length) d186, .bool (DryPipes_v1 m97 dl101 dl111 x118)]) rfl ek kk) ?_
       refine Fq (.bool (DryPipes_v1 m97 dl101 dl111 x118)) (r_extract (vs := #[.slice A185 ((DryPipes_v0 m97 dl101 dl111 x118).length) d186, .bool (DryPipes_v1 m97 dl101 dl111 x118)]) rfl ek kk) ?_
       refine Fa (.slice A185 ((DryPipes_v0 m97 dl101 dl111 x118).length) d186) ?_
       refine Fa (.bool (DryPipes_v1 m97 dl101 dl111 x118)) ?_
       refine F.es ?_
       have x135 := SG.blk s194 x135 (Option.some_ne_none _)
       have c196 := (SG.belowR c179 s194 (fun kq e => by cases e))
       have rd197 := Rd.kept rd180 (SG.below s194)
       have rd198 := Rd.kept rd181 (SG.below s194)
       refine h15 _ _ ?_
       refine wk fun K16 h16 => ?_
       refine wk fun K17 h17 => ?_
       refine W.region_plain (row := none) [(0, false), (1, false), (2, false), (3, true), (4, false), (5, false), (6, false), (7, false), (8, false)] kk ?_
       have s201 := SG.self w193 none
       refine Fq (.agg #[.int .i64 m97, .slice A98 n99 c100]) (r_load2 rfl ek kk kk (sgS (blk_cell (j := 0) x135 kk) (Option.some_ne_none _)) (sgS (blk_cell (j := 1) x135 kk) (Option.some_ne_none _))) ?_
       refine Fv (.slice A108 n109 c110) ?_
       refine Fv (.int .i64 x118) ?_
       refine Fc [.agg #[.int .i64 m97, .slice A98 n99 c100], .slice A108 n109 c110, .int .i64 x118] (DryPipes_spec m97 A98 n99 c100 dl101 A108 n109 c110 dl111 x118 w193 (Rd.kept rd197 (SG.below s201)) (Rd.kept rd198 (SG.below s201)) (by omega) (by omega) fm103 fm113) ?_
       rintro e w210 ⟨A202, d203, rfl, r204, b209⟩
       have s211 := SG.of_below s201 b209
       refine ⟨_, rfl, s211, ?_⟩
       refine F.nx ?_
       have hl207 : (DryPipes_v0 m97 dl101 dl111 x118).length = (DryPipes_v0 m97 dl101 dl111 x118).length := rfl
       refine Fv (.tuple #[.slice A202 ((DryPipes_v0 m97 dl101 dl111 x118).length) d203, .bool (DryPipes_v1 m97 dl101 dl111 x118)]) ?_
       refine Fq (.slice A202 ((DryPipes_v0 m97 dl101 dl111 x118).length) d203) (r_extract (vs := #[.slice A202 ((DryPipes_v0 m97 dl101 dl111 x118).length) d203, .bool (DryPipes_v1 m97 dl101 dl111 x118)]) rfl ek kk) ?_
       refine Fq (.bool (DryPipes_v1 m97 dl101 dl111 x118)) (r_extract (vs := #[.slice A202 ((DryPipes_v0 m97 dl101 dl111 x118).length) d203, .bool (DryPipes_v1 m97 dl101 dl111 x118)]) rfl ek kk) ?_
       refine Fa (.slice A202 ((DryPipes_v0 m97 dl101 dl111 x118).length) d203) ?_
       refine Fa (.bool (DryPipes_v1 m97 dl101 dl111 x118)) ?_
       refine F.es ?_
       have x135 := SG.blk s211 x135 (Option.some_ne_none _)
       have c212 := (SG.belowR c196 s211 (fun kq e => by cases e))
       have rd217 := Rd.kept rd188 (SG.below s211)
       refine h17 _ _ ?_
       refine wk fun K18 h18 => ?_
       refine W.region_plain (row := none) [(0, false), (1, false), (2, false), (3, false), (4, false), (5, false), (6, true), (7, false), (8, false)] kk ?_
       have s218 := SG.self w210 none
       refine Fv (.bool (DryPipes_v1 m97 dl101 dl111 x118)) ?_
       refine Fv (.bool (DryPipes_v1 m97 dl101 dl111 x118)) ?_
       refine Fq (.bool false) (r_neqB (m := (DryPipes_v1 m97 dl101 dl111 x118)) (n := (DryPipes_v1 m97 dl101 dl111 x118)) rfl ek ek kk (by rw [show ((DryPipes_v1 m97 dl101 dl111 x118) == (DryPipes_v1 m97 dl101 dl111 x118)) = true from beq_iff_eq.2 rfl]; try rfl)) ?_
       refine Fv (.bool false) ?_
       refine Fv (.slice A185 ((DryPipes_v0 m97 dl101 dl111 x118).length) d186) ?_
       refine Fv (.slice A202 ((DryPipes_v0 m97 dl101 dl111 x118).length) d203) ?_
       refine Fc [.slice A185 ((DryPipes_v0 m97 dl101 dl111 x118).length) d186, .slice A202 ((DryPipes_v0 m97 dl101 dl111 x118).length) d203] (vInts_same A185 A202 ((DryPipes_v0 m97 dl101 dl111 x118).length) d186 d203 (DryPipes_v0 m97 dl101 dl111 x118) _ (Rd.kept rd217 (SG.below s218)) (Rd.kept r204 (SG.below s218)) (by omega)) ?_
       rintro e w220 ⟨rfl, b219⟩
       have s221 := SG.of_below s218 b219
       refine ⟨_, rfl, s221, ?_⟩
       refine F.nx ?_
       refine Fq (.bool false) (r_not (b := true) rfl ek rfl) ?_
       refine Fq (.bool false) (r_pick (b := false) rfl ek ek) ?_
       refine F.es ?_
       have x135 := SG.blk s221 x135 (Option.some_ne_none _)
       have c222 := (SG.belowR c212 s221 (fun kq e => by cases e))
       refine h18 _ _ ?_
       as_aux_lemma =>
        refine wp_cond_false ek ?_
        refine wp_skip ?_
        refine h16 _ _ ?_
        refine wk fun K19 h19 => ?_
        refine W.region_plain (row := none) [(0, false), (1, true), (2, false), (3, false), (4, false), (5, true), (6, true), (7, false)] kk ?_
        have s229 := SG.self w220 none
        refine Fv (.slice A n c) ?_
        have lb231 := (Nat.lt_of_lt_of_le (blk_lt x135) (s229).size)
        have z230 := ((SG.belowR c222 s229 (fun kq e => by cases e))).size
        refine Fc [.slice A n c] (DrawNeedlessValves_any A n c zs _ (Rd.kept hcode (SG.belowR c222 s229 (fun kq e => by cases e))) hz (by have h9 := of_decide_eq_false q5; omega)) ?_
        rintro e w254 ⟨m232, A233, n234, c235, dl236, A243, n244, c245, dl246, rfl, ⟨⟨rd237, fm238, fr242⟩, hsm239⟩, ⟨⟨rd247, fm248, fr252⟩, hsm249⟩, b253⟩
        have s255 := SG.of_below s229 b253
        refine ⟨_, rfl, s255, ?_⟩
        refine F.nx ?_
        have hl240 := rd_pipes_len rd237
        have hsm239m := hsm239.1
        have hsm239n := hsm239.2.1
        have hl250 := rd_valves_len rd247
        refine Fv (.tuple #[.agg #[.int .i64 m232, .slice A233 n234 c235], .slice A243 n244 c245]) ?_
        refine Fq (.agg #[.int .i64 m232, .slice A233 n234 c235]) (r_extract (vs := #[.agg #[.int .i64 m232, .slice A233 n234 c235], .slice A243 n244 c245]) rfl ek kk) ?_
        refine Fq (.slice A243 n244 c245) (r_extract (vs := #[.agg #[.int .i64 m232, .slice A233 n234 c235], .slice A243 n244 c245]) rfl ek kk) ?_
        refine W.sn (fun b => .pointer (some ⟨b, 0, none⟩)) #[.int .i64 0, .slice none 0 0] 26 s255 rfl kk rfl (fun _ => by kernel_rfl) (fun b258 w259 hb260 k261 x262 s263 => ?_)
        refine F.nx ?_
        have lo264 : w.heap.size ≤ b258 := Nat.le_trans ((SG.belowR c222 s255 (fun kq e => by cases e))).size (Nat.le_of_eq hb260)
        have sp271 : Sp A233 n234 (some b258) := sp_new rd237 (by have := hb260; omega)
        have sp272 : Sp A243 n244 (some b258) := sp_new rd247 (by have := hb260; omega)
        have rd274 := Rd.kept rd237 k261
        have rd275 := Rd.kept rd247 k261
        refine W.ss (v := .agg #[.int .i64 m232, .slice A233 n234 c235]) (j := 0) (news := [.int .i64 m232, .slice A233 n234 c235]) (cs' := #[.int .i64 m232, .slice A233 n234 c235]) s263 rfl kk rfl rfl kk kk x262 kk kk (by simp) kk kk (.inr (Nat.le_trans (s255).size (Nat.le_of_eq hb260))) (fun w276 g277 x278 s279 => ?_)
        have rd280 := rd_sepG rd274 g277 sp271
        have rd281 := rd_sepG rd275 g277 sp272
        refine Fa (.slice A243 n244 c245) ?_
        refine F.es ?_
        have x135 := SG.blk s279 x135 (Option.some_ne_none _)
        have c282 := (SG.belowR c222 s279 (fun kq e => by cases e))
        refine h19 _ _ ?_
        refine wk fun K20 h20 => ?_
        refine W.region_plain (row := none) [(0, false), (1, false), (2, true), (3, false), (4, false), (5, false), (6, false), (7, false)] kk ?_
        have s289 := SG.self w276 none
        refine Fq (.agg #[.int .i64 m232, .slice A233 n234 c235]) (r_load2 rfl ek kk kk (sgS (blk_cell (j := 0) x278 kk) (Option.some_ne_none _)) (sgS (blk_cell (j := 1) x278 kk) (Option.some_ne_none _))) ?_
        refine Fv (.slice A243 n244 c245) ?_
        refine Fc [.agg #[.int .i64 m232, .slice A233 n234 c235], .slice A243 n244 c245] (NeedlessValves_impl m232 A233 n234 c235 dl236 A243 n244 c245 dl246  w276 (Rd.kept rd280 (SG.below s289)) (Rd.kept rd281 (SG.below s289)) (by omega) (by omega) fm238 fm248) ?_
        rintro e w298 ⟨A290, d291, rfl, r292, b297⟩
        have s299 := SG.of_below s289 b297
        refine ⟨_, rfl, s299, ?_⟩
        refine F.nx ?_
        have rd293 := own_rd r292
        have hl295 : (NeedlessValves_v0 m232 dl236 dl246).length = (NeedlessValves_v0 m232 dl236 dl246).length := rfl
        have hb300 := NeedlessValves_len m232 dl236 dl246
        rcases Bool.eq_false_or_eq_true (NeedlessValves_v1 m232 dl236 dl246) with q301 | q301
        ·rw [q301]
         refine Fv (.tuple #[.slice A290 ((NeedlessValves_v0 m232 dl236 dl246).length) d291, .bool true]) ?_
         refine Fq (.slice A290 ((NeedlessValves_v0 m232 dl236 dl246).length) d291) (r_extract (vs := #[.slice A290 ((NeedlessValves_v0 m232 dl236 dl246).length) d291, .bool true]) rfl ek kk) ?_
         refine Fq (.bool true) (r_extract (vs := #[.slice A290 ((NeedlessValves_v0 m232 dl236 dl246).length) d291, .bool true]) rfl ek kk) ?_
         refine Fa (.slice A290 ((NeedlessValves_v0 m232 dl236 dl246).length) d291) ?_
         refine Fa (.bool true) ?_
         refine F.es ?_
         have x135 := SG.blk s299 x135 (Option.some_ne_none _)
         have x278 := SG.blk s299 x278 (Option.some_ne_none _)
         have c302 := (SG.belowR c282 s299 (fun kq e => by cases e))
         have rd309 := Rd.kept rd280 (SG.below s299)
         have rd310 := Rd.kept rd281 (SG.below s299)
         refine h20 _ _ ?_
         as_aux_lemma =>
          refine wk fun K21 h21 => ?_
          refine wk fun K22 h22 => ?_
          refine W.region_plain (row := none) [(0, false), (1, false), (2, true), (3, false), (4, false), (5, false), (6, false), (7, false)] kk ?_
          have s311 := SG.self w298 none
          refine Fq (.agg #[.int .i64 m232, .slice A233 n234 c235]) (r_load2 rfl ek kk kk (sgS (blk_cell (j := 0) x278 kk) (Option.some_ne_none _)) (sgS (blk_cell (j := 1) x278 kk) (Option.some_ne_none _))) ?_
          refine Fv (.slice A243 n244 c245) ?_
          refine Fc [.agg #[.int .i64 m232, .slice A233 n234 c235], .slice A243 n244 c245] (NeedlessValves_spec m232 A233 n234 c235 dl236 A243 n244 c245 dl246  w298 (Rd.kept rd309 (SG.below s311)) (Rd.kept rd310 (SG.below s311)) (by omega) (by omega) fm238 fm248) ?_
          rintro e w320 ⟨A312, d313, rfl, r314, b319⟩
          have s321 := SG.of_below s311 b319
          refine ⟨_, rfl, s321, ?_⟩
          refine F.nx ?_
          have hl317 : (NeedlessValves_v0 m232 dl236 dl246).length = (NeedlessValves_v0 m232 dl236 dl246).length := rfl
          rw [q301]
          refine Fv (.tuple #[.slice A312 ((NeedlessValves_v0 m232 dl236 dl246).length) d313, .bool true]) ?_
          refine Fq (.slice A312 ((NeedlessValves_v0 m232 dl236 dl246).length) d313) (r_extract (vs := #[.slice A312 ((NeedlessValves_v0 m232 dl236 dl246).length) d313, .bool true]) rfl ek kk) ?_
          refine Fq (.bool true) (r_extract (vs := #[.slice A312 ((NeedlessValves_v0 m232 dl236 dl246).length) d313, .bool true]) rfl ek kk) ?_
          refine Fa (.slice A312 ((NeedlessValves_v0 m232 dl236 dl246).length) d313) ?_
          refine Fa (.bool true) ?_
          refine F.es ?_
          have x135 := SG.blk s321 x135 (Option.some_ne_none _)
          have x278 := SG.blk s321 x278 (Option.some_ne_none _)
          have c323 := (SG.belowR c302 s321 (fun kq e => by cases e))
          have rd330 := Rd.kept rd309 (SG.below s321)
          have rd331 := Rd.kept rd310 (SG.below s321)
          have rd332 := Rd.kept rd293 (SG.below s321)
          refine h22 _ _ ?_
          refine wk fun K23 h23 => ?_
          refine W.region_plain (row := none) [(0, false), (1, false), (2, false), (3, false), (4, false), (5, false), (6, true), (7, false), (8, false)] kk ?_
          have s333 := SG.self w320 none
          refine Fv (.bool true) ?_
          refine Fv (.bool true) ?_
          refine Fq (.bool false) (r_neqB (m := true) (n := true) rfl ek ek kk rfl) ?_
          refine Fv (.bool false) ?_
          refine Fv (.slice A290 ((NeedlessValves_v0 m232 dl236 dl246).length) d291) ?_
          refine Fv (.slice A312 ((NeedlessValves_v0 m232 dl236 dl246).length) d313) ?_
          refine Fc [.slice A290 ((NeedlessValves_v0 m232 dl236 dl246).length) d291, .slice A312 ((NeedlessValves_v0 m232 dl236 dl246).length) d313] (vInts_same A290 A312 ((NeedlessValves_v0 m232 dl236 dl246).length) d291 d313 (NeedlessValves_v0 m232 dl236 dl246) _ (Rd.kept rd332 (SG.below s333)) (Rd.kept r314 (SG.below s333)) (by omega)) ?_
          rintro e w335 ⟨rfl, b334⟩
          have s336 := SG.of_below s333 b334
          refine ⟨_, rfl, s336, ?_⟩
          refine F.nx ?_
          refine Fq (.bool false) (r_not (b := true) rfl ek rfl) ?_
          refine Fq (.bool false) (r_pick (b := false) rfl ek ek) ?_
          refine F.es ?_
          have x135 := SG.blk s336 x135 (Option.some_ne_none _)
          have x278 := SG.blk s336 x278 (Option.some_ne_none _)
          have c337 := (SG.belowR c323 s336 (fun kq e => by cases e))
          have rd344 := Rd.kept rd330 (SG.below s336)
          have rd345 := Rd.kept rd331 (SG.below s336)
          have rd346 := Rd.kept rd332 (SG.below s336)
          refine h23 _ _ ?_
          as_aux_lemma =>
           refine wp_cond_false ek ?_
           refine wp_skip ?_
           refine h21 _ _ ?_
           refine wk fun K24 h24 => ?_
           refine W.region_plain (row := none) [(0, false), (1, false), (2, true), (3, false), (4, false), (5, false), (6, false), (7, false)] kk ?_
           have s348 := SG.self w335 none
           refine Fq (.agg #[.int .i64 m232, .slice A233 n234 c235]) (r_load2 rfl ek kk kk (sgS (blk_cell (j := 0) x278 kk) (Option.some_ne_none _)) (sgS (blk_cell (j := 1) x278 kk) (Option.some_ne_none _))) ?_
           refine Fv (.slice A243 n244 c245) ?_
           have hc349 := CountSegments_impl m232 A233 n234 c235 dl236 A243 n244 c245 dl246  w335 (Rd.kept rd344 (SG.below s348)) (Rd.kept rd345 (SG.below s348)) (by omega) (by omega) fm238 fm248
           rw [show CountSegments_v1 m232 dl236 dl246 = NeedlessValves_v1 m232 dl236 dl246 from rfl] at hc349
           refine Fc [.agg #[.int .i64 m232, .slice A233 n234 c235], .slice A243 n244 c245] (hc349) ?_
           rintro e w351 ⟨rfl, b350⟩
           have s352 := SG.of_below s348 b350
           refine ⟨_, rfl, s352, ?_⟩
           refine F.nx ?_
           rw [q301]
           refine Fv (.tuple #[.int .i64 (CountSegments_v0 m232 dl236 dl246), .bool true]) ?_
           refine Fq (.int .i64 (CountSegments_v0 m232 dl236 dl246)) (r_extract (vs := #[.int .i64 (CountSegments_v0 m232 dl236 dl246), .bool true]) rfl ek kk) ?_
           refine Fq (.bool true) (r_extract (vs := #[.int .i64 (CountSegments_v0 m232 dl236 dl246), .bool true]) rfl ek kk) ?_
           refine Fa (.int .i64 (CountSegments_v0 m232 dl236 dl246)) ?_
           refine Fa (.bool true) ?_
           refine F.es ?_
           have x135 := SG.blk s352 x135 (Option.some_ne_none _)
           have x278 := SG.blk s352 x278 (Option.some_ne_none _)
           have c354 := (SG.belowR c337 s352 (fun kq e => by cases e))
           have rd361 := Rd.kept rd344 (SG.below s352)
           have rd362 := Rd.kept rd345 (SG.below s352)
           have rd363 := Rd.kept rd346 (SG.below s352)
           refine h24 _ _ ?_
           refine wk fun K25 h25 => ?_
           refine wk fun K26 h26 => ?_
           refine W.region_plain (row := none) [(0, false), (1, false), (2, true), (3, false), (4, false), (5, false), (6, false), (7, false)] kk ?_
           have s365 := SG.self w351 none
           refine Fq (.agg #[.int .i64 m232, .slice A233 n234 c235]) (r_load2 rfl ek kk kk (sgS (blk_cell (j := 0) x278 kk) (Option.some_ne_none _)) (sgS (blk_cell (j := 1) x278 kk) (Option.some_ne_none _))) ?_
           refine Fv (.slice A243 n244 c245) ?_
           have hc366 := CountSegments_spec m232 A233 n234 c235 dl236 A243 n244 c245 dl246  w351 (Rd.kept rd361 (SG.below s365)) (Rd.kept rd362 (SG.below s365)) (by omega) (by omega) fm238 fm248
           rw [show CountSegments_v1 m232 dl236 dl246 = NeedlessValves_v1 m232 dl236 dl246 from rfl] at hc366
           refine Fc [.agg #[.int .i64 m232, .slice A233 n234 c235], .slice A243 n244 c245] (hc366) ?_
           rintro e w368 ⟨rfl, b367⟩
           have s369 := SG.of_below s365 b367
           refine ⟨_, rfl, s369, ?_⟩
           refine F.nx ?_
           rw [q301]
           refine Fv (.tuple #[.int .i64 (CountSegments_v0 m232 dl236 dl246), .bool true]) ?_
           refine Fq (.int .i64 (CountSegments_v0 m232 dl236 dl246)) (r_extract (vs := #[.int .i64 (CountSegments_v0 m232 dl236 dl246), .bool true]) rfl ek kk) ?_
           refine Fq (.bool true) (r_extract (vs := #[.int .i64 (CountSegments_v0 m232 dl236 dl246), .bool true]) rfl ek kk) ?_
           refine Fa (.int .i64 (CountSegments_v0 m232 dl236 dl246)) ?_
           refine Fa (.bool true) ?_
           refine F.es ?_
           have x135 := SG.blk s369 x135 (Option.some_ne_none _)
           have x278 := SG.blk s369 x278 (Option.some_ne_none _)
           have c371 := (SG.belowR c354 s369 (fun kq e => by cases e))
           have rd378 := Rd.kept rd361 (SG.below s369)
           have rd379 := Rd.kept rd362 (SG.below s369)
           have rd380 := Rd.kept rd363 (SG.below s369)
           refine h26 _ _ ?_
           as_aux_lemma =>
            refine wk fun K27 h27 => ?_
            refine W.region_quiet [(0, false), (1, false), (2, false), (3, false), (4, false), (5, false), (6, false), (7, false), (8, false), (9, false), (10, false), (11, false), (12, false)] kk ?_
            refine Fv (.int .i64 (CountSegments_v0 m232 dl236 dl246)) ?_
            refine Fv (.int .i64 (CountSegments_v0 m232 dl236 dl246)) ?_
            refine Fq (.bool false) (r_neq (m := (CountSegments_v0 m232 dl236 dl246)) (n := (CountSegments_v0 m232 dl236 dl246)) rfl ek ek (decide_eq_false (by omega))) ?_
            refine Fv (.bool false) ?_
            refine Fv (.bool true) ?_
            refine Fv (.bool true) ?_
            refine Fq (.bool false) (r_neqB (m := true) (n := true) rfl ek ek kk rfl) ?_
            refine Fq (.bool false) (r_pick (b := false) rfl ek ek) ?_
            refine Fv (.bool false) ?_
            refine Fv (.bool true) ?_
            refine Fv (.bool true) ?_
            refine Fq (.bool false) (r_neqB (m := true) (n := true) rfl ek ek kk rfl) ?_
            refine Fq (.bool false) (r_pick (b := false) rfl ek ek) ?_
            refine F.es ?_
            refine h27 _ _ ?_
            refine wp_cond_false ek ?_
            refine wp_skip ?_
            refine h25 _ _ ?_
            refine wk fun K28 h28 => ?_
            refine wk fun K29 h29 => ?_
            refine W.region_quiet [(0, false)] kk ?_
            refine Fa (.int .i64 0) ?_
            refine F.es ?_
            refine h29 _ _ ?_
            refine wp_block ?_
            refine loopK (fun am0 aa0 wl0 => ∃ (i : Nat) , Kn aa0 [(2, .bool false), (24, .pointer (some ⟨b258, 0, none⟩)), (25, .slice A243 n244 c245), (26, .slice A290 ((NeedlessValves_v0 m232 dl236 dl246).length) d291), (27, .bool true), (30, .int .i64 (CountSegments_v0 m232 dl236 dl246)), (34, .int .i64 (i : Int))] 253 ∧ (am0 = n234 - i) ∧ (i ≤ n234) ∧ (wl0.heap[b258]? = some (.cells #[.int .i64 m232, .slice A233 n234 c235] 26 (0, 0))) ∧ (Rd wl0 4 A243 n244 (valvesV dl246)) ∧ (Rd wl0 1 A290 ((NeedlessValves_v0 m232 dl236 dl246).length) (intsV (NeedlessValves_v0 m232 dl236 dl246))) ∧ (Rd wl0 4 A233 n234 (pipesV dl236)) ∧ (Below w.heap.size w wl0)) (n234 - 0) ?_ ?_
            ·exact ⟨0, Kn.of, rfl, (Nat.zero_le _), x278, rd379, rd380, rd378, c371⟩
            rintro am0 aa0 wl0 K30 h30 ⟨i, ⟨U0, rfl⟩, rfl, hi, x278, kl0_0, kl0_1, kl0_2, c382⟩
            refine wk fun K31 h31 => ?_
            refine wk fun K32 h32 => ?_
            refine W.region_quiet [(0, false), (1, false), (2, false), (3, false), (4, false), (5, false), (6, false), (7, false)] kk ?_
            refine Fv (.int .i64 (i : Int)) ?_
            refine Fq (.pointer (some ⟨b258, 1, none⟩)) (r_field (k := 1) rfl ek kk) ?_
            refine Fl (.slice A233 n234 c235) (eqS (blk_cell (j := 1) x278 kk)) ?_
            refine Fq (.int .i64 (n234 : Int)) (r_len (A := A233) (n := n234) (c := c235) rfl ek kk) ?_
            by_cases q383 : ((i : Int) : Int) < ((n234 : Int) : Int)
            ·refine Fq (.bool true) (r_lss (m := (i : Int)) (n := (n234 : Int)) rfl ek ek (decide_eq_true q383)) ?_
             refine Fv (.bool true) ?_
             refine Fv (.bool true) ?_
             refine Fq (.bool true) (r_pick (b := true) rfl ek ek) ?_
             refine F.es ?_
             refine h32 _ _ ?_
             refine wp_cond_true ek ?_
             refine wp_skip ?_
             refine h31 _ _ ?_
             refine wk fun K33 h33 => ?_
             refine wp_block ?_
             refine wk fun K34 h34 => ?_
             refine W.region_sch (row := none) (Sch.of [(0, false), (1, false), (2, false), (3, false), (4, false), (5, false), (6, false), (7, false), (8, true), (9, false), (10, false), (11, false), (12, false), (13, false)]) kk kk (fun _ d _ _ _ h => by cases d <;> exact h) kk (fun w384 e385 s386 => ?_)
             refine Fq (.agg #[.int .i64 m232, .slice A233 n234 c235]) (r_load2 rfl ek kk kk (sgS (blk_cell (j := 0) x278 kk) (Option.some_ne_none _)) (sgS (blk_cell (j := 1) x278 kk) (Option.some_ne_none _))) ?_
             refine Fv (.slice A243 n244 c245) ?_
             refine Fq (.pointer (some ⟨b258, 1, none⟩)) (r_field (k := 1) rfl ek kk) ?_
             refine Fl (.slice A233 n234 c235) (sgS (blk_cell (j := 1) x278 kk) (Option.some_ne_none _)) ?_
             refine Fv (.int .i64 (i : Int)) ?_
             obtain ⟨x387, hx388⟩ := get_of (zs := dl236) (k := i) (by have := hl240; omega)
             obtain ⟨b389, o390, hA391, hb392, hc393, hc394, hc395, hc396⟩ := Rd.elPipe kl0_2 hx388
             refine Fq (.pointer (some ⟨b389, o390 + i * 4, none⟩)) (r_idx (n := n234) (c := c235) (k := i) rfl ek hA391 kk kk (by have := hl240; omega)) ?_
             refine Fq (.pointer (some ⟨b389, o390 + i * 4, none⟩)) (r_field0 rfl ek kk) ?_
             refine Fl (.int .i64 x387.id) (sgS hc393 (by simp)) ?_
             refine Fc [.agg #[.int .i64 m232, .slice A233 n234 c235], .slice A243 n244 c245, .int .i64 x387.id] (ValvesAround_impl m232 A233 n234 c235 dl236 A243 n244 c245 dl246 x387.id w384 (Rd.kept kl0_2 (SG.below s386)) (Rd.kept kl0_0 (SG.below s386)) (by omega) (by omega) fm238 fm248) ?_
             rintro e w405 ⟨A397, d398, rfl, r399, b404⟩
             have s406 := SG.of_below s386 b404
             refine ⟨_, rfl, s406, ?_⟩
             refine F.nx ?_
             have rd400 := own_rd r399
             have hl402 : (ValvesAround_v0 m232 dl236 dl246 x387.id).length = (ValvesAround_v0 m232 dl236 dl246 x387.id).length := rfl
             have hb407 := ValvesAround_len m232 dl236 dl246 x387.id
             refine Fv (.tuple #[.slice A397 ((ValvesAround_v0 m232 dl236 dl246 x387.id).length) d398, .bool (ValvesAround_v1 m232 dl236 dl246 x387.id)]) ?_
             refine Fq (.slice A397 ((ValvesAround_v0 m232 dl236 dl246 x387.id).length) d398) (r_extract (vs := #[.slice A397 ((ValvesAround_v0 m232 dl236 dl246 x387.id).length) d398, .bool (ValvesAround_v1 m232 dl236 dl246 x387.id)]) rfl ek kk) ?_
             refine Fq (.bool (ValvesAround_v1 m232 dl236 dl246 x387.id)) (r_extract (vs := #[.slice A397 ((ValvesAround_v0 m232 dl236 dl246 x387.id).length) d398, .bool (ValvesAround_v1 m232 dl236 dl246 x387.id)]) rfl ek kk) ?_
             refine Fa (.slice A397 ((ValvesAround_v0 m232 dl236 dl246 x387.id).length) d398) ?_
             refine Fa (.bool (ValvesAround_v1 m232 dl236 dl246 x387.id)) ?_
             refine F.es ?_
             have x278 := SG.blk s406 x278 (Option.some_ne_none _)
             have c408 := (SG.belowR c382 s406 (fun kq e => by cases e))
             have rd409 := Rd.kept kl0_2 (SG.below s406)
             have rd410 := Rd.kept kl0_0 (SG.below s406)
             have rd411 := Rd.kept kl0_1 (SG.below s406)
             refine h34 _ _ ?_
             as_aux_lemma =>
              refine wk fun K35 h35 => ?_
              refine wk fun K36 h36 => ?_
              refine W.region_quiet [(0, false), (1, false)] kk ?_
              refine Fv (.bool (ValvesAround_v1 m232 dl236 dl246 x387.id)) ?_
              have q412 : (ValvesAround_v1 m232 dl236 dl246 x387.id) = true := around_ok q301 hx388
              rw [q412]
              refine Fq (.bool false) (r_not (b := true) rfl ek rfl) ?_
              refine F.es ?_
              refine h36 _ _ ?_
              refine wp_cond_false ek ?_
              refine wp_skip ?_
              refine h35 _ _ ?_
              refine wk fun K37 h37 => ?_
              refine W.region_quiet [(0, false)] kk ?_
              refine Fa (.int .i64 0) ?_
              refine F.es ?_
              refine h37 _ _ ?_
              refine wp_block ?_
              refine loopK (fun am1 aa1 wl1 => ∃ (k : Nat) , Kn aa1 [(2, .bool false), (24, .pointer (some ⟨b258, 0, none⟩)), (25, .slice A243 n244 c245), (26, .slice A290 ((NeedlessValves_v0 m232 dl236 dl246).length) d291), (27, .bool true), (30, .int .i64 (CountSegments_v0 m232 dl236 dl246)), (34, .int .i64 (i : Int)), (35, .slice A397 ((ValvesAround_v0 m232 dl236 dl246 x387.id).length) d398), (36, .bool true), (37, .int .i64 (k : Int)), (208, .bool true), (224, .bool false)] 253 ∧ (am1 = (ValvesAround_v0 m232 dl236 dl246 x387.id).length - k) ∧ (k ≤ (ValvesAround_v0 m232 dl236 dl246 x387.id).length) ∧ (wl1.heap[b258]? = some (.cells #[.int .i64 m232, .slice A233 n234 c235] 26 (0, 0))) ∧ (Rd wl1 4 A243 n244 (valvesV dl246)) ∧ (Rd wl1 1 A290 ((NeedlessValves_v0 m232 dl236 dl246).length) (intsV (NeedlessValves_v0 m232 dl236 dl246))) ∧ (Rd wl1 1 A397 ((ValvesAround_v0 m232 dl236 dl246 x387.id).length) (intsV (ValvesAround_v0 m232 dl236 dl246 x387.id))) ∧ (Rd wl1 4 A233 n234 (pipesV dl236)) ∧ (Below w.heap.size w wl1)) ((ValvesAround_v0 m232 dl236 dl246 x387.id).length - 0) ?_ ?_
              ·exact ⟨0, Kn.of, rfl, (Nat.zero_le _), x278, rd410, rd411, rd400, rd409, c408⟩
              rintro am1 aa1 wl1 K38 h38 ⟨k, ⟨U1, rfl⟩, rfl, hk, x278, kl1_0, kl1_1, kl1_2, kl1_3, c413⟩
              refine wk fun K39 h39 => ?_
              refine wk fun K40 h40 => ?_
              refine W.region_quiet [(0, false), (1, false), (2, false), (3, false)] kk ?_
              refine Fv (.int .i64 (k : Int)) ?_
              refine Fv (.slice A397 ((ValvesAround_v0 m232 dl236 dl246 x387.id).length) d398) ?_
              refine Fq (.int .i64 (((ValvesAround_v0 m232 dl236 dl246 x387.id).length : Nat) : Int)) (r_len (A := A397) (n := (ValvesAround_v0 m232 dl236 dl246 x387.id).length) (c := d398) rfl ek kk) ?_
              by_cases q414 : ((k : Int) : Int) < ((((ValvesAround_v0 m232 dl236 dl246 x387.id).length : Nat) : Int) : Int)
              ·refine Fq (.bool true) (r_lss (m := (k : Int)) (n := (((ValvesAround_v0 m232 dl236 dl246 x387.id).length : Nat) : Int)) rfl ek ek (decide_eq_true q414)) ?_
               refine F.es ?_
               refine h40 _ _ ?_
               refine wp_cond_true ek ?_
               refine wp_skip ?_
               refine h39 _ _ ?_
               refine wk fun K41 h41 => ?_
               refine wp_block ?_
               refine wk fun K42 h42 => ?_
               refine W.region_plain (row := none) [(0, false), (1, false), (2, false), (3, false), (4, false), (5, true)] kk ?_
               have s415 := SG.self wl1 none
               refine Fv (.slice A290 ((NeedlessValves_v0 m232 dl236 dl246).length) d291) ?_
               refine Fv (.slice A397 ((ValvesAround_v0 m232 dl236 dl246 x387.id).length) d398) ?_
               refine Fv (.int .i64 (k : Int)) ?_
               obtain ⟨x416, hx417⟩ := get_of (zs := (ValvesAround_v0 m232 dl236 dl246 x387.id)) (k := k) (by have := hl402; omega)
               obtain ⟨b418, o419, hA420, hb421, hc422⟩ := Rd.elInt kl1_2 hx417
               refine Fq (.pointer (some ⟨b418, o419 + k, none⟩)) (r_idx1 (n := (ValvesAround_v0 m232 dl236 dl246 x387.id).length) (c := d398) (k := k) rfl ek hA420 kk kk (by have := hl402; omega)) ?_
               refine Fl (.int .i64 x416) (sgS hc422 (by simp)) ?_
               refine Fc [.slice A290 ((NeedlessValves_v0 m232 dl236 dl246).length) d291, .int .i64 x416] (vHas_any A290 ((NeedlessValves_v0 m232 dl236 dl246).length) d291 (NeedlessValves_v0 m232 dl236 dl246) x416 _ (Rd.kept kl1_1 (SG.below s415)) (by omega)) ?_
               rintro e w424 ⟨rfl, b423⟩
               have s425 := SG.of_below s415 b423
               refine ⟨_, rfl, s425, ?_⟩
               refine F.nx ?_
               have q426 : ((NeedlessValves_v0 m232 dl236 dl246).contains x416) = false := need_not (show goodV _ _ _ = true from q301) (List.mem_of_getElem? hx417)
               rw [q426]
               refine F.es ?_
               have x278 := SG.blk s425 x278 (Option.some_ne_none _)
               have c427 := (SG.belowR c413 s425 (fun kq e => by cases e))
               have rd428 := Rd.kept kl1_3 (SG.below s425)
               have rd429 := Rd.kept kl1_0 (SG.below s425)
               have rd430 := Rd.kept kl1_1 (SG.below s425)
               have rd431 := Rd.kept kl1_2 (SG.below s425)
               refine h42 _ _ ?_
               as_aux_lemma =>
                refine wp_cond_false ek ?_
                refine wp_skip ?_
                refine h41 _ _ ?_
                refine W.region_quiet [(0, false), (1, false), (2, false)] kk ?_
                refine Fv (.int .i64 (k : Int)) ?_
                refine Fq (.int .i64 ((k + 1 : Nat) : Int)) (r_add (m := (k : Int)) (n := 1) (z := ((k + 1 : Nat) : Int)) rfl ek ek (by omega) (by omega)) ?_
                refine Fa (.int .i64 ((k + 1 : Nat) : Int)) ?_
                refine F.es ?_
                exact h38 _ _ _ (by omega : ((ValvesAround_v0 m232 dl236 dl246 x387.id).length - (k + 1)) < _) ⟨k + 1, Kn.of, rfl, (by omega), x278, rd429, rd430, rd431, rd428, c427⟩
              refine Fq (.bool false) (r_lss (m := (k : Int)) (n := (((ValvesAround_v0 m232 dl236 dl246 x387.id).length : Nat) : Int)) rfl ek ek (decide_eq_false q414)) ?_
              refine F.es ?_
              refine h40 _ _ ?_
              refine wp_cond_false ek ?_
              refine wp_exit ?_
              refine h33 _ _ ?_
              refine W.region_quiet [(0, false), (1, false), (2, false)] kk ?_
              refine Fv (.int .i64 (i : Int)) ?_
              refine Fq (.int .i64 ((i + 1 : Nat) : Int)) (r_add (m := (i : Int)) (n := 1) (z := ((i + 1 : Nat) : Int)) rfl ek ek (by omega) (by omega)) ?_
              refine Fa (.int .i64 ((i + 1 : Nat) : Int)) ?_
              refine F.es ?_
              exact h30 _ _ _ (by omega : (n234 - (i + 1)) < _) ⟨i + 1, Kn.of, rfl, (by omega), x278, kl1_0, kl1_1, kl1_3, c413⟩
            refine Fq (.bool false) (r_lss (m := (i : Int)) (n := (n234 : Int)) rfl ek ek (decide_eq_false q383)) ?_
            refine Fv (.bool false) ?_
            refine Fs rfl ?_
            refine Fq (.bool false) (r_pick (b := false) rfl ek ek) ?_
            refine F.es ?_
            refine h32 _ _ ?_
            refine wp_cond_false ek ?_
            refine wp_exit ?_
            refine h28 _ _ ?_
            refine wk fun K43 h43 => ?_
            refine W.region_quiet [(0, false), (1, false), (2, false), (3, false), (4, false), (5, false), (6, false), (7, false), (8, false), (9, false), (10, false), (11, false), (12, false), (13, false), (14, false), (15, false), (16, false)] kk ?_
            refine Fv (.bool true) ?_
            refine Fq (.bool false) (r_not (b := true) rfl ek rfl) ?_
            refine Fv (.bool false) ?_
            refine Fv (.int .i64 (CountSegments_v0 m232 dl236 dl246)) ?_
            refine Fq (.bool true) (r_geq (m := (CountSegments_v0 m232 dl236 dl246)) (n := 1) rfl ek ek (decide_eq_true ((cnt_fact q301).1))) ?_
            refine Fv (.bool true) ?_
            refine Fv (.int .i64 (CountSegments_v0 m232 dl236 dl246)) ?_
            refine Fq (.pointer (some ⟨b258, 0, none⟩)) (r_field0 rfl ek kk) ?_
            refine Fl (.int .i64 m232) (eqS (blk_cell (j := 0) x278 kk)) ?_
            refine Fq (.pointer (some ⟨b258, 1, none⟩)) (r_field (k := 1) rfl ek kk) ?_
            refine Fl (.slice A233 n234 c235) (eqS (blk_cell (j := 1) x278 kk)) ?_
            refine Fq (.int .i64 (n234 : Int)) (r_len (A := A233) (n := n234) (c := c235) rfl ek kk) ?_
            refine Fq (.int .i64 (m232 + (n234 : Int))) (r_add (m := m232) (n := (n234 : Int)) (z := m232 + (n234 : Int)) rfl ek ek (rfl) (by omega)) ?_
            refine Fq (.bool true) (r_leq (m := (CountSegments_v0 m232 dl236 dl246)) (n := m232 + (n234 : Int)) rfl ek ek (decide_eq_true (by have h9 := (cnt_fact q301).2; omega))) ?_
            refine Fq (.bool true) (r_pick (b := true) rfl ek ek) ?_
            refine Fq (.bool true) (r_pick (b := false) rfl ek ek) ?_
            refine Fa (.bool true) ?_
            refine F.es ?_
            refine h43 _ _ ?_
            refine wp_ret ?_
            try simp only [Exit.then]
            refine ret1 (v := .bool true) rfl kk ?_
            exact ⟨rfl, c382⟩
        rw [q301]
        refine Fv (.tuple #[.slice A290 ((NeedlessValves_v0 m232 dl236 dl246).length) d291, .bool false]) ?_
        refine Fq (.slice A290 ((NeedlessValves_v0 m232 dl236 dl246).length) d291) (r_extract (vs := #[.slice A290 ((NeedlessValves_v0 m232 dl236 dl246).length) d291, .bool false]) rfl ek kk) ?_
        refine Fq (.bool false) (r_extract (vs := #[.slice A290 ((NeedlessValves_v0 m232 dl236 dl246).length) d291, .bool false]) rfl ek kk) ?_
        refine Fa (.slice A290 ((NeedlessValves_v0 m232 dl236 dl246).length) d291) ?_
        refine Fa (.bool false) ?_
        refine F.es ?_
        have x135 := SG.blk s299 x135 (Option.some_ne_none _)
        have x278 := SG.blk s299 x278 (Option.some_ne_none _)
        have c432 := (SG.belowR c282 s299 (fun kq e => by cases e))
        have rd439 := Rd.kept rd280 (SG.below s299)
        have rd440 := Rd.kept rd281 (SG.below s299)
        refine h20 _ _ ?_
        as_aux_lemma =>
         refine wk fun K44 h44 => ?_
         refine wk fun K45 h45 => ?_
         refine W.region_plain (row := none) [(0, false), (1, false), (2, true), (3, false), (4, false), (5, false), (6, false), (7, false)] kk ?_
         have s441 := SG.self w298 none
         refine Fq (.agg #[.int .i64 m232, .slice A233 n234 c235]) (r_load2 rfl ek kk kk (sgS (blk_cell (j := 0) x278 kk) (Option.some_ne_none _)) (sgS (blk_cell (j := 1) x278 kk) (Option.some_ne_none _))) ?_
         refine Fv (.slice A243 n244 c245) ?_
         refine Fc [.agg #[.int .i64 m232, .slice A233 n234 c235], .slice A243 n244 c245] (NeedlessValves_spec m232 A233 n234 c235 dl236 A243 n244 c245 dl246  w298 (Rd.kept rd439 (SG.below s441)) (Rd.kept rd440 (SG.below s441)) (by omega) (by omega) fm238 fm248) ?_
         rintro e w450 ⟨A442, d443, rfl, r444, b449⟩
         have s451 := SG.of_below s441 b449
         refine ⟨_, rfl, s451, ?_⟩
         refine F.nx ?_
         have hl447 : (NeedlessValves_v0 m232 dl236 dl246).length = (NeedlessValves_v0 m232 dl236 dl246).length := rfl
         rw [q301]
         refine Fv (.tuple #[.slice A442 ((NeedlessValves_v0 m232 dl236 dl246).length) d443, .bool false]) ?_
         refine Fq (.slice A442 ((NeedlessValves_v0 m232 dl236 dl246).length) d443) (r_extract (vs := #[.slice A442 ((NeedlessValves_v0 m232 dl236 dl246).length) d443, .bool false]) rfl ek kk) ?_
         refine Fq (.bool false) (r_extract (vs := #[.slice A442 ((NeedlessValves_v0 m232 dl236 dl246).length) d443, .bool false]) rfl ek kk) ?_
         refine Fa (.slice A442 ((NeedlessValves_v0 m232 dl236 dl246).length) d443) ?_
         refine Fa (.bool false) ?_
         refine F.es ?_
         have x135 := SG.blk s451 x135 (Option.some_ne_none _)
         have x278 := SG.blk s451 x278 (Option.some_ne_none _)
         have c453 := (SG.belowR c432 s451 (fun kq e => by cases e))
         have rd460 := Rd.kept rd439 (SG.below s451)
         have rd461 := Rd.kept rd440 (SG.below s451)
         have rd462 := Rd.kept rd293 (SG.below s451)
         refine h45 _ _ ?_
         refine wk fun K46 h46 => ?_
         refine W.region_plain (row := none) [(0, false), (1, false), (2, false), (3, false), (4, false), (5, false), (6, true), (7, false), (8, false)] kk ?_
         have s463 := SG.self w450 none
         refine Fv (.bool false) ?_
         refine Fv (.bool false) ?_
         refine Fq (.bool false) (r_neqB (m := false) (n := false) rfl ek ek kk rfl) ?_
         refine Fv (.bool false) ?_
         refine Fv (.slice A290 ((NeedlessValves_v0 m232 dl236 dl246).length) d291) ?_
         refine Fv (.slice A442 ((NeedlessValves_v0 m232 dl236 dl246).length) d443) ?_
         refine Fc [.slice A290 ((NeedlessValves_v0 m232 dl236 dl246).length) d291, .slice A442 ((NeedlessValves_v0 m232 dl236 dl246).length) d443] (vInts_same A290 A442 ((NeedlessValves_v0 m232 dl236 dl246).length) d291 d443 (NeedlessValves_v0 m232 dl236 dl246) _ (Rd.kept rd462 (SG.below s463)) (Rd.kept r444 (SG.below s463)) (by omega)) ?_
         rintro e w465 ⟨rfl, b464⟩
         have s466 := SG.of_below s463 b464
         refine ⟨_, rfl, s466, ?_⟩
         refine F.nx ?_
         refine Fq (.bool false) (r_not (b := true) rfl ek rfl) ?_
         refine Fq (.bool false) (r_pick (b := false) rfl ek ek) ?_
         refine F.es ?_
         have x135 := SG.blk s466 x135 (Option.some_ne_none _)
         have x278 := SG.blk s466 x278 (Option.some_ne_none _)
         have c467 := (SG.belowR c453 s466 (fun kq e => by cases e))
         have rd474 := Rd.kept rd460 (SG.below s466)
         have rd475 := Rd.kept rd461 (SG.below s466)
         have rd476 := Rd.kept rd462 (SG.below s466)
         refine h46 _ _ ?_
         as_aux_lemma =>
          refine wp_cond_false ek ?_
          refine wp_skip ?_
          refine h44 _ _ ?_
          refine wk fun K47 h47 => ?_
          refine W.region_plain (row := none) [(0, false), (1, false), (2, true), (3, false), (4, false), (5, false), (6, false), (7, false)] kk ?_
          have s478 := SG.self w465 none
          refine Fq (.agg #[.int .i64 m232, .slice A233 n234 c235]) (r_load2 rfl ek kk kk (sgS (blk_cell (j := 0) x278 kk) (Option.some_ne_none _)) (sgS (blk_cell (j := 1) x278 kk) (Option.some_ne_none _))) ?_
          refine Fv (.slice A243 n244 c245) ?_
          have hc479 := CountSegments_impl m232 A233 n234 c235 dl236 A243 n244 c245 dl246  w465 (Rd.kept rd474 (SG.below s478)) (Rd.kept rd475 (SG.below s478)) (by omega) (by omega) fm238 fm248
          rw [show CountSegments_v1 m232 dl236 dl246 = NeedlessValves_v1 m232 dl236 dl246 from rfl] at hc479
          refine Fc [.agg #[.int .i64 m232, .slice A233 n234 c235], .slice A243 n244 c245] (hc479) ?_
          rintro e w481 ⟨rfl, b480⟩
          have s482 := SG.of_below s478 b480
          refine ⟨_, rfl, s482, ?_⟩
          refine F.nx ?_
          rw [q301]
          refine Fv (.tuple #[.int .i64 (CountSegments_v0 m232 dl236 dl246), .bool false]) ?_
          refine Fq (.int .i64 (CountSegments_v0 m232 dl236 dl246)) (r_extract (vs := #[.int .i64 (CountSegments_v0 m232 dl236 dl246), .bool false]) rfl ek kk) ?_
          refine Fq (.bool false) (r_extract (vs := #[.int .i64 (CountSegments_v0 m232 dl236 dl246), .bool false]) rfl ek kk) ?_
          refine Fa (.int .i64 (CountSegments_v0 m232 dl236 dl246)) ?_
          refine Fa (.bool false) ?_
          refine F.es ?_
          have x135 := SG.blk s482 x135 (Option.some_ne_none _)
          have x278 := SG.blk s482 x278 (Option.some_ne_none _)
          have c484 := (SG.belowR c467 s482 (fun kq e => by cases e))
          have rd491 := Rd.kept rd474 (SG.below s482)
          have rd492 := Rd.kept rd475 (SG.below s482)
          have rd493 := Rd.kept rd476 (SG.below s482)
          refine h47 _ _ ?_
          refine wk fun K48 h48 => ?_
          refine wk fun K49 h49 => ?_
          refine W.region_plain (row := none) [(0, false), (1, false), (2, true), (3, false), (4, false), (5, false), (6, false), (7, false)] kk ?_
          have s495 := SG.self w481 none
          refine Fq (.agg #[.int .i64 m232, .slice A233 n234 c235]) (r_load2 rfl ek kk kk (sgS (blk_cell (j := 0) x278 kk) (Option.some_ne_none _)) (sgS (blk_cell (j := 1) x278 kk) (Option.some_ne_none _))) ?_
          refine Fv (.slice A243 n244 c245) ?_
          have hc496 := CountSegments_spec m232 A233 n234 c235 dl236 A243 n244 c245 dl246  w481 (Rd.kept rd491 (SG.below s495)) (Rd.kept rd492 (SG.below s495)) (by omega) (by omega) fm238 fm248
          rw [show CountSegments_v1 m232 dl236 dl246 = NeedlessValves_v1 m232 dl236 dl246 from rfl] at hc496
          refine Fc [.agg #[.int .i64 m232, .slice A233 n234 c235], .slice A243 n244 c245] (hc496) ?_
          rintro e w498 ⟨rfl, b497⟩
          have s499 := SG.of_below s495 b497
          refine ⟨_, rfl, s499, ?_⟩
          refine F.nx ?_
          rw [q301]
          refine Fv (.tuple #[.int .i64 (CountSegments_v0 m232 dl236 dl246), .bool false]) ?_
          refine Fq (.int .i64 (CountSegments_v0 m232 dl236 dl246)) (r_extract (vs := #[.int .i64 (CountSegments_v0 m232 dl236 dl246), .bool false]) rfl ek kk) ?_
          refine Fq (.bool false) (r_extract (vs := #[.int .i64 (CountSegments_v0 m232 dl236 dl246), .bool false]) rfl ek kk) ?_
          refine Fa (.int .i64 (CountSegments_v0 m232 dl236 dl246)) ?_
          refine Fa (.bool false) ?_
          refine F.es ?_
          have x135 := SG.blk s499 x135 (Option.some_ne_none _)
          have x278 := SG.blk s499 x278 (Option.some_ne_none _)
          have c501 := (SG.belowR c484 s499 (fun kq e => by cases e))
          have rd508 := Rd.kept rd491 (SG.below s499)
          have rd509 := Rd.kept rd492 (SG.below s499)
          have rd510 := Rd.kept rd493 (SG.below s499)
          refine h49 _ _ ?_
          as_aux_lemma =>
           refine wk fun K50 h50 => ?_
           refine W.region_quiet [(0, false), (1, false), (2, false), (3, false), (4, false), (5, false), (6, false), (7, false), (8, false), (9, false), (10, false), (11, false), (12, false)] kk ?_
           refine Fv (.int .i64 (CountSegments_v0 m232 dl236 dl246)) ?_
           refine Fv (.int .i64 (CountSegments_v0 m232 dl236 dl246)) ?_
           refine Fq (.bool false) (r_neq (m := (CountSegments_v0 m232 dl236 dl246)) (n := (CountSegments_v0 m232 dl236 dl246)) rfl ek ek (decide_eq_false (by omega))) ?_
           refine Fv (.bool false) ?_
           refine Fv (.bool false) ?_
           refine Fv (.bool false) ?_
           refine Fq (.bool false) (r_neqB (m := false) (n := false) rfl ek ek kk rfl) ?_
           refine Fq (.bool false) (r_pick (b := false) rfl ek ek) ?_
           refine Fv (.bool false) ?_
           refine Fv (.bool false) ?_
           refine Fv (.bool false) ?_
           refine Fq (.bool false) (r_neqB (m := false) (n := false) rfl ek ek kk rfl) ?_
           refine Fq (.bool false) (r_pick (b := false) rfl ek ek) ?_
           refine F.es ?_
           refine h50 _ _ ?_
           refine wp_cond_false ek ?_
           refine wp_skip ?_
           refine h48 _ _ ?_
           refine wk fun K51 h51 => ?_
           refine wk fun K52 h52 => ?_
           refine W.region_quiet [(0, false)] kk ?_
           refine Fa (.int .i64 0) ?_
           refine F.es ?_
           refine h52 _ _ ?_
           refine wp_block ?_
           refine loopK (fun am0 aa0 wl0 => ∃ (i : Nat) , Kn aa0 [(2, .bool false), (24, .pointer (some ⟨b258, 0, none⟩)), (25, .slice A243 n244 c245), (26, .slice A290 ((NeedlessValves_v0 m232 dl236 dl246).length) d291), (27, .bool false), (30, .int .i64 (CountSegments_v0 m232 dl236 dl246)), (34, .int .i64 (i : Int))] 253 ∧ (am0 = n234 - i) ∧ (i ≤ n234) ∧ (wl0.heap[b258]? = some (.cells #[.int .i64 m232, .slice A233 n234 c235] 26 (0, 0))) ∧ (Rd wl0 4 A243 n244 (valvesV dl246)) ∧ (Rd wl0 1 A290 ((NeedlessValves_v0 m232 dl236 dl246).length) (intsV (NeedlessValves_v0 m232 dl236 dl246))) ∧ (Rd wl0 4 A233 n234 (pipesV dl236)) ∧ (Below w.heap.size w wl0)) (n234 - 0) ?_ ?_
           ·exact ⟨0, Kn.of, rfl, (Nat.zero_le _), x278, rd509, rd510, rd508, c501⟩
           rintro am0 aa0 wl0 K53 h53 ⟨i, ⟨U0, rfl⟩, rfl, hi, x278, kl0_0, kl0_1, kl0_2, c512⟩
           refine wk fun K54 h54 => ?_
           refine wk fun K55 h55 => ?_
           refine W.region_quiet [(0, false), (1, false), (2, false), (3, false), (4, false), (5, false), (6, false), (7, false)] kk ?_
           refine Fv (.int .i64 (i : Int)) ?_
           refine Fq (.pointer (some ⟨b258, 1, none⟩)) (r_field (k := 1) rfl ek kk) ?_
           refine Fl (.slice A233 n234 c235) (eqS (blk_cell (j := 1) x278 kk)) ?_
           refine Fq (.int .i64 (n234 : Int)) (r_len (A := A233) (n := n234) (c := c235) rfl ek kk) ?_
           by_cases q513 : ((i : Int) : Int) < ((n234 : Int) : Int)
           ·refine Fq (.bool true) (r_lss (m := (i : Int)) (n := (n234 : Int)) rfl ek ek (decide_eq_true q513)) ?_
            refine Fv (.bool true) ?_
            refine Fv (.bool false) ?_
            refine Fq (.bool false) (r_pick (b := true) rfl ek ek) ?_
            refine F.es ?_
            refine h55 _ _ ?_
            refine wp_cond_false ek ?_
            refine wp_exit ?_
            refine h51 _ _ ?_
            refine wk fun K56 h56 => ?_
            refine W.region_quiet [(0, false), (1, false), (2, false), (3, false), (4, false), (5, false), (6, false), (7, false), (8, false), (9, false), (10, false), (11, false), (12, false), (13, false), (14, false), (15, false), (16, false)] kk ?_
            refine Fv (.bool false) ?_
            refine Fq (.bool true) (r_not (b := false) rfl ek rfl) ?_
            refine Fv (.bool true) ?_
            refine Fs rfl ?_
            refine Fs rfl ?_
            refine Fs rfl ?_
            refine Fs rfl ?_
            refine Fs rfl ?_
            refine Fs rfl ?_
            refine Fs rfl ?_
            refine Fs rfl ?_
            refine Fs rfl ?_
            refine Fs rfl ?_
            refine Fs rfl ?_
            refine Fs rfl ?_
            refine Fq (.bool true) (r_pick (b := true) rfl ek ek) ?_
            refine Fa (.bool true) ?_
            refine F.es ?_
            refine h56 _ _ ?_
            as_aux_lemma =>
             refine wp_ret ?_
             try simp only [Exit.then]
             refine ret1 (v := .bool true) rfl kk ?_
             exact ⟨rfl, c512⟩
           refine Fq (.bool false) (r_lss (m := (i : Int)) (n := (n234 : Int)) rfl ek ek (decide_eq_false q513)) ?_
           refine Fv (.bool false) ?_
           refine Fs rfl ?_
           refine Fq (.bool false) (r_pick (b := false) rfl ek ek) ?_
           refine F.es ?_
           refine h55 _ _ ?_
           refine wp_cond_false ek ?_
           refine wp_exit ?_
           refine h51 _ _ ?_
           refine wk fun K57 h57 => ?_
           refine W.region_quiet [(0, false), (1, false), (2, false), (3, false), (4, false), (5, false), (6, false), (7, false), (8, false), (9, false), (10, false), (11, false), (12, false), (13, false), (14, false), (15, false), (16, false)] kk ?_
           refine Fv (.bool false) ?_
           refine Fq (.bool true) (r_not (b := false) rfl ek rfl) ?_
           refine Fv (.bool true) ?_
           refine Fs rfl ?_
           refine Fs rfl ?_
           refine Fs rfl ?_
           refine Fs rfl ?_
           refine Fs rfl ?_
           refine Fs rfl ?_
           refine Fs rfl ?_
           refine Fs rfl ?_
           refine Fs rfl ?_
           refine Fs rfl ?_
           refine Fs rfl ?_
           refine Fs rfl ?_
           refine Fq (.bool true) (r_pick (b := true) rfl ek ek) ?_
           refine Fa (.bool true) ?_
           refine F.es ?_
           refine h57 _ _ ?_
           refine wp_ret ?_
           try simp only [Exit.then]
           refine ret1 (v := .bool true) rfl kk ?_
           exact ⟨rfl, c512⟩
     rw [q174]
     refine Fs s173 ?_
     refine Fs s173 ?_
     refine Fs s173 ?_
     refine Fq (.bool false) (r_pick (b := false) rfl ek ek) ?_
     refine Fq (.bool false) (r_pick (b := false) rfl ek ek) ?_
     refine F.es ?_
     have x135 := SG.blk s173 x135 (Option.some_ne_none _)
     have c514 := (SG.belowR c166 s173 (fun kq e => by cases e))
     have rd515 := Rd.kept rd167 (SG.below s173)
     have rd516 := Rd.kept rd168 (SG.below s173)
     refine h14 _ _ ?_
     refine wp_cond_false ek ?_
     refine wp_skip ?_
     refine h12 _ _ ?_
     refine wk fun K58 h58 => ?_
     refine W.region_plain (row := none) [(0, false), (1, false), (2, false), (3, true), (4, false), (5, false), (6, false), (7, false), (8, false)] kk ?_
     have s519 := SG.self w172 none
     refine Fq (.agg #[.int .i64 m97, .slice A98 n99 c100]) (r_load2 rfl ek kk kk (sgS (blk_cell (j := 0) x135 kk) (Option.some_ne_none _)) (sgS (blk_cell (j := 1) x135 kk) (Option.some_ne_none _))) ?_
     refine Fv (.slice A108 n109 c110) ?_
     refine Fv (.int .i64 x118) ?_
     refine Fc [.agg #[.int .i64 m97, .slice A98 n99 c100], .slice A108 n109 c110, .int .i64 x118] (DryPipes_impl m97 A98 n99 c100 dl101 A108 n109 c110 dl111 x118 w172 (Rd.kept rd515 (SG.below s519)) (Rd.kept rd516 (SG.below s519)) (by omega) (by omega) fm103 fm113) ?_
     rintro e w528 ⟨A520, d521, rfl, r522, b527⟩
     have s529 := SG.of_below s519 b527
     refine ⟨_, rfl, s529, ?_⟩
     refine F.nx ?_
     have rd523 := own_rd r522
     have hl525 : (DryPipes_v0 m97 dl101 dl111 x118).length = (DryPipes_v0 m97 dl101 dl111 x118).length := rfl
     have hb530 := DryPipes_len m97 dl101 dl111 x118
     refine Fv (.tuple #[.slice A520 ((DryPipes_v0 m97 dl101 dl111 x118).length) d521, .bool (DryPipes_v1 m97 dl101 dl111 x118)]) ?_
     refine Fq (.slice A520 ((DryPipes_v0 m97 dl101 dl111 x118).length) d521) (r_extract (vs := #[.slice A520 ((DryPipes_v0 m97 dl101 dl111 x118).length) d521, .bool (DryPipes_v1 m97 dl101 dl111 x118)]) rfl ek kk) ?_
     refine Fq (.bool (DryPipes_v1 m97 dl101 dl111 x118)) (r_extract (vs := #[.slice A520 ((DryPipes_v0 m97 dl101 dl111 x118).length) d521, .bool (DryPipes_v1 m97 dl101 dl111 x118)]) rfl ek kk) ?_
     refine Fa (.slice A520 ((DryPipes_v0 m97 dl101 dl111 x118).length) d521) ?_
     refine Fa (.bool (DryPipes_v1 m97 dl101 dl111 x118)) ?_
     refine F.es ?_
     have x135 := SG.blk s529 x135 (Option.some_ne_none _)
     have c531 := (SG.belowR c514 s529 (fun kq e => by cases e))
     have rd532 := Rd.kept rd515 (SG.below s529)
     have rd533 := Rd.kept rd516 (SG.below s529)
     refine h58 _ _ ?_
     as_aux_lemma =>
      refine wk fun K59 h59 => ?_
      refine wk fun K60 h60 => ?_
      refine W.region_plain (row := none) [(0, false), (1, false), (2, false), (3, true), (4, false), (5, false), (6, false), (7, false), (8, false)] kk ?_
      have s536 := SG.self w528 none
      refine Fq (.agg #[.int .i64 m97, .slice A98 n99 c100]) (r_load2 rfl ek kk kk (sgS (blk_cell (j := 0) x135 kk) (Option.some_ne_none _)) (sgS (blk_cell (j := 1) x135 kk) (Option.some_ne_none _))) ?_
      refine Fv (.slice A108 n109 c110) ?_
      refine Fv (.int .i64 x118) ?_
      refine Fc [.agg #[.int .i64 m97, .slice A98 n99 c100], .slice A108 n109 c110, .int .i64 x118] (DryPipes_spec m97 A98 n99 c100 dl101 A108 n109 c110 dl111 x118 w528 (Rd.kept rd532 (SG.below s536)) (Rd.kept rd533 (SG.below s536)) (by omega) (by omega) fm103 fm113) ?_
      rintro e w545 ⟨A537, d538, rfl, r539, b544⟩
      have s546 := SG.of_below s536 b544
      refine ⟨_, rfl, s546, ?_⟩
      refine F.nx ?_
      have hl542 : (DryPipes_v0 m97 dl101 dl111 x118).length = (DryPipes_v0 m97 dl101 dl111 x118).length := rfl
      refine Fv (.tuple #[.slice A537 ((DryPipes_v0 m97 dl101 dl111 x118).length) d538, .bool (DryPipes_v1 m97 dl101 dl111 x118)]) ?_
      refine Fq (.slice A537 ((DryPipes_v0 m97 dl101 dl111 x118).length) d538) (r_extract (vs := #[.slice A537 ((DryPipes_v0 m97 dl101 dl111 x118).length) d538, .bool (DryPipes_v1 m97 dl101 dl111 x118)]) rfl ek kk) ?_
      refine Fq (.bool (DryPipes_v1 m97 dl101 dl111 x118)) (r_extract (vs := #[.slice A537 ((DryPipes_v0 m97 dl101 dl111 x118).length) d538, .bool (DryPipes_v1 m97 dl101 dl111 x118)]) rfl ek kk) ?_
      refine Fa (.slice A537 ((DryPipes_v0 m97 dl101 dl111 x118).length) d538) ?_
      refine Fa (.bool (DryPipes_v1 m97 dl101 dl111 x118)) ?_
      refine F.es ?_
      have x135 := SG.blk s546 x135 (Option.some_ne_none _)
      have c547 := (SG.belowR c531 s546 (fun kq e => by cases e))
      have rd552 := Rd.kept rd523 (SG.below s546)
      refine h60 _ _ ?_
      refine wk fun K61 h61 => ?_
      refine W.region_plain (row := none) [(0, false), (1, false), (2, false), (3, false), (4, false), (5, false), (6, true), (7, false), (8, false)] kk ?_
      have s553 := SG.self w545 none
      refine Fv (.bool (DryPipes_v1 m97 dl101 dl111 x118)) ?_
      refine Fv (.bool (DryPipes_v1 m97 dl101 dl111 x118)) ?_
      refine Fq (.bool false) (r_neqB (m := (DryPipes_v1 m97 dl101 dl111 x118)) (n := (DryPipes_v1 m97 dl101 dl111 x118)) rfl ek ek kk (by rw [show ((DryPipes_v1 m97 dl101 dl111 x118) == (DryPipes_v1 m97 dl101 dl111 x118)) = true from beq_iff_eq.2 rfl]; try rfl)) ?_
      refine Fv (.bool false) ?_
      refine Fv (.slice A520 ((DryPipes_v0 m97 dl101 dl111 x118).length) d521) ?_
      refine Fv (.slice A537 ((DryPipes_v0 m97 dl101 dl111 x118).length) d538) ?_
      refine Fc [.slice A520 ((DryPipes_v0 m97 dl101 dl111 x118).length) d521, .slice A537 ((DryPipes_v0 m97 dl101 dl111 x118).length) d538] (vInts_same A520 A537 ((DryPipes_v0 m97 dl101 dl111 x118).length) d521 d538 (DryPipes_v0 m97 dl101 dl111 x118) _ (Rd.kept rd552 (SG.below s553)) (Rd.kept r539 (SG.below s553)) (by omega)) ?_
      rintro e w555 ⟨rfl, b554⟩
      have s556 := SG.of_below s553 b554
      refine ⟨_, rfl, s556, ?_⟩
      refine F.nx ?_
      refine Fq (.bool false) (r_not (b := true) rfl ek rfl) ?_
      refine Fq (.bool false) (r_pick (b := false) rfl ek ek) ?_
      refine F.es ?_
      have x135 := SG.blk s556 x135 (Option.some_ne_none _)
      have c557 := (SG.belowR c547 s556 (fun kq e => by cases e))
      refine h61 _ _ ?_
      refine wp_cond_false ek ?_
      refine wp_skip ?_
      refine h59 _ _ ?_
      refine wk fun K62 h62 => ?_
      refine W.region_plain (row := none) [(0, false), (1, true), (2, false), (3, false), (4, false), (5, true), (6, true), (7, false)] kk ?_
      have s564 := SG.self w555 none
      refine Fv (.slice A n c) ?_
      have lb566 := (Nat.lt_of_lt_of_le (blk_lt x135) (s564).size)
      have z565 := ((SG.belowR c557 s564 (fun kq e => by cases e))).size
      refine Fc [.slice A n c] (DrawNeedlessValves_any A n c zs _ (Rd.kept hcode (SG.belowR c557 s564 (fun kq e => by cases e))) hz (by have h9 := of_decide_eq_false q5; omega)) ?_
      rintro e w589 ⟨m567, A568, n569, c570, dl571, A578, n579, c580, dl581, rfl, ⟨⟨rd572, fm573, fr577⟩, hsm574⟩, ⟨⟨rd582, fm583, fr587⟩, hsm584⟩, b588⟩
      have s590 := SG.of_below s564 b588
      refine ⟨_, rfl, s590, ?_⟩
      refine F.nx ?_
      have hl575 := rd_pipes_len rd572
      have hsm574m := hsm574.1
      have hsm574n := hsm574.2.1
      have hl585 := rd_valves_len rd582
      refine Fv (.tuple #[.agg #[.int .i64 m567, .slice A568 n569 c570], .slice A578 n579 c580]) ?_
      refine Fq (.agg #[.int .i64 m567, .slice A568 n569 c570]) (r_extract (vs := #[.agg #[.int .i64 m567, .slice A568 n569 c570], .slice A578 n579 c580]) rfl ek kk) ?_
      refine Fq (.slice A578 n579 c580) (r_extract (vs := #[.agg #[.int .i64 m567, .slice A568 n569 c570], .slice A578 n579 c580]) rfl ek kk) ?_
      refine W.sn (fun b => .pointer (some ⟨b, 0, none⟩)) #[.int .i64 0, .slice none 0 0] 26 s590 rfl kk rfl (fun _ => by kernel_rfl) (fun b593 w594 hb595 k596 x597 s598 => ?_)
      refine F.nx ?_
      have lo599 : w.heap.size ≤ b593 := Nat.le_trans ((SG.belowR c557 s590 (fun kq e => by cases e))).size (Nat.le_of_eq hb595)
      have sp606 : Sp A568 n569 (some b593) := sp_new rd572 (by have := hb595; omega)
      have sp607 : Sp A578 n579 (some b593) := sp_new rd582 (by have := hb595; omega)
      have rd609 := Rd.kept rd572 k596
      have rd610 := Rd.kept rd582 k596
      refine W.ss (v := .agg #[.int .i64 m567, .slice A568 n569 c570]) (j := 0) (news := [.int .i64 m567, .slice A568 n569 c570]) (cs' := #[.int .i64 m567, .slice A568 n569 c570]) s598 rfl kk rfl rfl kk kk x597 kk kk (by simp) kk kk (.inr (Nat.le_trans (s590).size (Nat.le_of_eq hb595))) (fun w611 g612 x613 s614 => ?_)
      have rd615 := rd_sepG rd609 g612 sp606
      have rd616 := rd_sepG rd610 g612 sp607
      refine Fa (.slice A578 n579 c580) ?_
      refine F.es ?_
      have c617 := (SG.belowR c557 s614 (fun kq e => by cases e))
      refine h62 _ _ ?_
      as_aux_lemma =>
       refine wk fun K63 h63 => ?_
       refine W.region_plain (row := none) [(0, false), (1, false), (2, true), (3, false), (4, false), (5, false), (6, false), (7, false)] kk ?_
       have s624 := SG.self w611 none
       refine Fq (.agg #[.int .i64 m567, .slice A568 n569 c570]) (r_load2 rfl ek kk kk (sgS (blk_cell (j := 0) x613 kk) (Option.some_ne_none _)) (sgS (blk_cell (j := 1) x613 kk) (Option.some_ne_none _))) ?_
       refine Fv (.slice A578 n579 c580) ?_
       refine Fc [.agg #[.int .i64 m567, .slice A568 n569 c570], .slice A578 n579 c580] (NeedlessValves_impl m567 A568 n569 c570 dl571 A578 n579 c580 dl581  w611 (Rd.kept rd615 (SG.below s624)) (Rd.kept rd616 (SG.below s624)) (by omega) (by omega) fm573 fm583) ?_
       rintro e w633 ⟨A625, d626, rfl, r627, b632⟩
       have s634 := SG.of_below s624 b632
       refine ⟨_, rfl, s634, ?_⟩
       refine F.nx ?_
       have rd628 := own_rd r627
       have hl630 : (NeedlessValves_v0 m567 dl571 dl581).length = (NeedlessValves_v0 m567 dl571 dl581).length := rfl
       have hb635 := NeedlessValves_len m567 dl571 dl581
       rcases Bool.eq_false_or_eq_true (NeedlessValves_v1 m567 dl571 dl581) with q636 | q636
       ·rw [q636]
        refine Fv (.tuple #[.slice A625 ((NeedlessValves_v0 m567 dl571 dl581).length) d626, .bool true]) ?_
        refine Fq (.slice A625 ((NeedlessValves_v0 m567 dl571 dl581).length) d626) (r_extract (vs := #[.slice A625 ((NeedlessValves_v0 m567 dl571 dl581).length) d626, .bool true]) rfl ek kk) ?_
        refine Fq (.bool true) (r_extract (vs := #[.slice A625 ((NeedlessValves_v0 m567 dl571 dl581).length) d626, .bool true]) rfl ek kk) ?_
        refine Fa (.slice A625 ((NeedlessValves_v0 m567 dl571 dl581).length) d626) ?_
        refine Fa (.bool true) ?_
        refine F.es ?_
        have x613 := SG.blk s634 x613 (Option.some_ne_none _)
        have c637 := (SG.belowR c617 s634 (fun kq e => by cases e))
        have rd644 := Rd.kept rd615 (SG.below s634)
        have rd645 := Rd.kept rd616 (SG.below s634)
        refine h63 _ _ ?_
        refine wk fun K64 h64 => ?_
        refine wk fun K65 h65 => ?_
        refine W.region_plain (row := none) [(0, false), (1, false), (2, true), (3, false), (4, false), (5, false), (6, false), (7, false)] kk ?_
        have s646 := SG.self w633 none
        refine Fq (.agg #[.int .i64 m567, .slice A568 n569 c570]) (r_load2 rfl ek kk kk (sgS (blk_cell (j := 0) x613 kk) (Option.some_ne_none _)) (sgS (blk_cell (j := 1) x613 kk) (Option.some_ne_none _))) ?_
        refine Fv (.slice A578 n579 c580) ?_
        refine Fc [.agg #[.int .i64 m567, .slice A568 n569 c570], .slice A578 n579 c580] (NeedlessValves_spec m567 A568 n569 c570 dl571 A578 n579 c580 dl581  w633 (Rd.kept rd644 (SG.below s646)) (Rd.kept rd645 (SG.below s646)) (by omega) (by omega) fm573 fm583) ?_
        rintro e w655 ⟨A647, d648, rfl, r649, b654⟩
        have s656 := SG.of_below s646 b654
        refine ⟨_, rfl, s656, ?_⟩
        refine F.nx ?_
        have hl652 : (NeedlessValves_v0 m567 dl571 dl581).length = (NeedlessValves_v0 m567 dl571 dl581).length := rfl
        rw [q636]
        refine Fv (.tuple #[.slice A647 ((NeedlessValves_v0 m567 dl571 dl581).length) d648, .bool true]) ?_
        refine Fq (.slice A647 ((NeedlessValves_v0 m567 dl571 dl581).length) d648) (r_extract (vs := #[.slice A647 ((NeedlessValves_v0 m567 dl571 dl581).length) d648, .bool true]) rfl ek kk) ?_
        refine Fq (.bool true) (r_extract (vs := #[.slice A647 ((NeedlessValves_v0 m567 dl571 dl581).length) d648, .bool true]) rfl ek kk) ?_
        refine Fa (.slice A647 ((NeedlessValves_v0 m567 dl571 dl581).length) d648) ?_
        refine Fa (.bool true) ?_
        refine F.es ?_
        have x613 := SG.blk s656 x613 (Option.some_ne_none _)
        have c658 := (SG.belowR c637 s656 (fun kq e => by cases e))
        have rd665 := Rd.kept rd644 (SG.below s656)
        have rd666 := Rd.kept rd645 (SG.below s656)
        have rd667 := Rd.kept rd628 (SG.below s656)
        refine h65 _ _ ?_
        as_aux_lemma =>
         refine wk fun K66 h66 => ?_
         refine W.region_plain (row := none) [(0, false), (1, false), (2, false), (3, false), (4, false), (5, false), (6, true), (7, false), (8, false)] kk ?_
         have s668 := SG.self w655 none
         refine Fv (.bool true) ?_
         refine Fv (.bool true) ?_
         refine Fq (.bool false) (r_neqB (m := true) (n := true) rfl ek ek kk rfl) ?_
         refine Fv (.bool false) ?_
         refine Fv (.slice A625 ((NeedlessValves_v0 m567 dl571 dl581).length) d626) ?_
         refine Fv (.slice A647 ((NeedlessValves_v0 m567 dl571 dl581).length) d648) ?_
         refine Fc [.slice A625 ((NeedlessValves_v0 m567 dl571 dl581).length) d626, .slice A647 ((NeedlessValves_v0 m567 dl571 dl581).length) d648] (vInts_same A625 A647 ((NeedlessValves_v0 m567 dl571 dl581).length) d626 d648 (NeedlessValves_v0 m567 dl571 dl581) _ (Rd.kept rd667 (SG.below s668)) (Rd.kept r649 (SG.below s668)) (by omega)) ?_
         rintro e w670 ⟨rfl, b669⟩
         have s671 := SG.of_below s668 b669
         refine ⟨_, rfl, s671, ?_⟩
         refine F.nx ?_
         refine Fq (.bool false) (r_not (b := true) rfl ek rfl) ?_
         refine Fq (.bool false) (r_pick (b := false) rfl ek ek) ?_
         refine F.es ?_
         have x613 := SG.blk s671 x613 (Option.some_ne_none _)
         have c672 := (SG.belowR c658 s671 (fun kq e => by cases e))
         have rd679 := Rd.kept rd665 (SG.below s671)
         have rd680 := Rd.kept rd666 (SG.below s671)
         have rd681 := Rd.kept rd667 (SG.below s671)
         refine h66 _ _ ?_
         refine wp_cond_false ek ?_
         refine wp_skip ?_
         refine h64 _ _ ?_
         refine wk fun K67 h67 => ?_
         refine W.region_plain (row := none) [(0, false), (1, false), (2, true), (3, false), (4, false), (5, false), (6, false), (7, false)] kk ?_
         have s683 := SG.self w670 none
         refine Fq (.agg #[.int .i64 m567, .slice A568 n569 c570]) (r_load2 rfl ek kk kk (sgS (blk_cell (j := 0) x613 kk) (Option.some_ne_none _)) (sgS (blk_cell (j := 1) x613 kk) (Option.some_ne_none _))) ?_
         refine Fv (.slice A578 n579 c580) ?_
         have hc684 := CountSegments_impl m567 A568 n569 c570 dl571 A578 n579 c580 dl581  w670 (Rd.kept rd679 (SG.below s683)) (Rd.kept rd680 (SG.below s683)) (by omega) (by omega) fm573 fm583
         rw [show CountSegments_v1 m567 dl571 dl581 = NeedlessValves_v1 m567 dl571 dl581 from rfl] at hc684
         refine Fc [.agg #[.int .i64 m567, .slice A568 n569 c570], .slice A578 n579 c580] (hc684) ?_
         rintro e w686 ⟨rfl, b685⟩
         have s687 := SG.of_below s683 b685
         refine ⟨_, rfl, s687, ?_⟩
         refine F.nx ?_
         rw [q636]
         refine Fv (.tuple #[.int .i64 (CountSegments_v0 m567 dl571 dl581), .bool true]) ?_
         refine Fq (.int .i64 (CountSegments_v0 m567 dl571 dl581)) (r_extract (vs := #[.int .i64 (CountSegments_v0 m567 dl571 dl581), .bool true]) rfl ek kk) ?_
         refine Fq (.bool true) (r_extract (vs := #[.int .i64 (CountSegments_v0 m567 dl571 dl581), .bool true]) rfl ek kk) ?_
         refine Fa (.int .i64 (CountSegments_v0 m567 dl571 dl581)) ?_
         refine Fa (.bool true) ?_
         refine F.es ?_
         have x613 := SG.blk s687 x613 (Option.some_ne_none _)
         have c689 := (SG.belowR c672 s687 (fun kq e => by cases e))
         have rd696 := Rd.kept rd679 (SG.below s687)
         have rd697 := Rd.kept rd680 (SG.below s687)
         have rd698 := Rd.kept rd681 (SG.below s687)
         refine h67 _ _ ?_
         as_aux_lemma =>
          refine wk fun K68 h68 => ?_
          refine wk fun K69 h69 => ?_
          refine W.region_plain (row := none) [(0, false), (1, false), (2, true), (3, false), (4, false), (5, false), (6, false), (7, false)] kk ?_
          have s700 := SG.self w686 none
          refine Fq (.agg #[.int .i64 m567, .slice A568 n569 c570]) (r_load2 rfl ek kk kk (sgS (blk_cell (j := 0) x613 kk) (Option.some_ne_none _)) (sgS (blk_cell (j := 1) x613 kk) (Option.some_ne_none _))) ?_
          refine Fv (.slice A578 n579 c580) ?_
          have hc701 := CountSegments_spec m567 A568 n569 c570 dl571 A578 n579 c580 dl581  w686 (Rd.kept rd696 (SG.below s700)) (Rd.kept rd697 (SG.below s700)) (by omega) (by omega) fm573 fm583
          rw [show CountSegments_v1 m567 dl571 dl581 = NeedlessValves_v1 m567 dl571 dl581 from rfl] at hc701
          refine Fc [.agg #[.int .i64 m567, .slice A568 n569 c570], .slice A578 n579 c580] (hc701) ?_
          rintro e w703 ⟨rfl, b702⟩
          have s704 := SG.of_below s700 b702
          refine ⟨_, rfl, s704, ?_⟩
          refine F.nx ?_
          rw [q636]
          refine Fv (.tuple #[.int .i64 (CountSegments_v0 m567 dl571 dl581), .bool true]) ?_
          refine Fq (.int .i64 (CountSegments_v0 m567 dl571 dl581)) (r_extract (vs := #[.int .i64 (CountSegments_v0 m567 dl571 dl581), .bool true]) rfl ek kk) ?_
          refine Fq (.bool true) (r_extract (vs := #[.int .i64 (CountSegments_v0 m567 dl571 dl581), .bool true]) rfl ek kk) ?_
          refine Fa (.int .i64 (CountSegments_v0 m567 dl571 dl581)) ?_
          refine Fa (.bool true) ?_
          refine F.es ?_
          have x613 := SG.blk s704 x613 (Option.some_ne_none _)
          have c706 := (SG.belowR c689 s704 (fun kq e => by cases e))
          have rd713 := Rd.kept rd696 (SG.below s704)
          have rd714 := Rd.kept rd697 (SG.below s704)
          have rd715 := Rd.kept rd698 (SG.below s704)
          refine h69 _ _ ?_
          refine wk fun K70 h70 => ?_
          refine W.region_quiet [(0, false), (1, false), (2, false), (3, false), (4, false), (5, false), (6, false), (7, false), (8, false), (9, false), (10, false), (11, false), (12, false)] kk ?_
          refine Fv (.int .i64 (CountSegments_v0 m567 dl571 dl581)) ?_
          refine Fv (.int .i64 (CountSegments_v0 m567 dl571 dl581)) ?_
          refine Fq (.bool false) (r_neq (m := (CountSegments_v0 m567 dl571 dl581)) (n := (CountSegments_v0 m567 dl571 dl581)) rfl ek ek (decide_eq_false (by omega))) ?_
          refine Fv (.bool false) ?_
          refine Fv (.bool true) ?_
          refine Fv (.bool true) ?_
          refine Fq (.bool false) (r_neqB (m := true) (n := true) rfl ek ek kk rfl) ?_
          refine Fq (.bool false) (r_pick (b := false) rfl ek ek) ?_
          refine Fv (.bool false) ?_
          refine Fv (.bool true) ?_
          refine Fv (.bool true) ?_
          refine Fq (.bool false) (r_neqB (m := true) (n := true) rfl ek ek kk rfl) ?_
          refine Fq (.bool false) (r_pick (b := false) rfl ek ek) ?_
          refine F.es ?_
          refine h70 _ _ ?_
          refine wp_cond_false ek ?_
          refine wp_skip ?_
          refine h68 _ _ ?_
          refine wk fun K71 h71 => ?_
          refine wk fun K72 h72 => ?_
          refine W.region_quiet [(0, false)] kk ?_
          refine Fa (.int .i64 0) ?_
          refine F.es ?_
          refine h72 _ _ ?_
          refine wp_block ?_
          refine loopK (fun am0 aa0 wl0 => ∃ (i : Nat) , Kn aa0 [(2, .bool false), (24, .pointer (some ⟨b593, 0, none⟩)), (25, .slice A578 n579 c580), (26, .slice A625 ((NeedlessValves_v0 m567 dl571 dl581).length) d626), (27, .bool true), (30, .int .i64 (CountSegments_v0 m567 dl571 dl581)), (34, .int .i64 (i : Int))] 253 ∧ (am0 = n569 - i) ∧ (i ≤ n569) ∧ (wl0.heap[b593]? = some (.cells #[.int .i64 m567, .slice A568 n569 c570] 26 (0, 0))) ∧ (Rd wl0 4 A578 n579 (valvesV dl581)) ∧ (Rd wl0 1 A625 ((NeedlessValves_v0 m567 dl571 dl581).length) (intsV (NeedlessValves_v0 m567 dl571 dl581))) ∧ (Rd wl0 4 A568 n569 (pipesV dl571)) ∧ (Below w.heap.size w wl0)) (n569 - 0) ?_ ?_
          ·exact ⟨0, Kn.of, rfl, (Nat.zero_le _), x613, rd714, rd715, rd713, c706⟩
          rintro am0 aa0 wl0 K73 h73 ⟨i, ⟨U0, rfl⟩, rfl, hi, x613, kl0_0, kl0_1, kl0_2, c717⟩
          refine wk fun K74 h74 => ?_
          refine wk fun K75 h75 => ?_
          refine W.region_quiet [(0, false), (1, false), (2, false), (3, false), (4, false), (5, false), (6, false), (7, false)] kk ?_
          refine Fv (.int .i64 (i : Int)) ?_
          refine Fq (.pointer (some ⟨b593, 1, none⟩)) (r_field (k := 1) rfl ek kk) ?_
          refine Fl (.slice A568 n569 c570) (eqS (blk_cell (j := 1) x613 kk)) ?_
          refine Fq (.int .i64 (n569 : Int)) (r_len (A := A568) (n := n569) (c := c570) rfl ek kk) ?_
          by_cases q718 : ((i : Int) : Int) < ((n569 : Int) : Int)
          ·refine Fq (.bool true) (r_lss (m := (i : Int)) (n := (n569 : Int)) rfl ek ek (decide_eq_true q718)) ?_
           refine Fv (.bool true) ?_
           refine Fv (.bool true) ?_
           refine Fq (.bool true) (r_pick (b := true) rfl ek ek) ?_
           refine F.es ?_
           refine h75 _ _ ?_
           as_aux_lemma =>
            refine wp_cond_true ek ?_
            refine wp_skip ?_
            refine h74 _ _ ?_
            refine wk fun K76 h76 => ?_
            refine wp_block ?_
            refine wk fun K77 h77 => ?_
            refine W.region_sch (row := none) (Sch.of [(0, false), (1, false), (2, false), (3, false), (4, false), (5, false), (6, false), (7, false), (8, true), (9, false), (10, false), (11, false), (12, false), (13, false)]) kk kk (fun _ d _ _ _ h => by cases d <;> exact h) kk (fun w719 e720 s721 => ?_)
            refine Fq (.agg #[.int .i64 m567, .slice A568 n569 c570]) (r_load2 rfl ek kk kk (sgS (blk_cell (j := 0) x613 kk) (Option.some_ne_none _)) (sgS (blk_cell (j := 1) x613 kk) (Option.some_ne_none _))) ?_
            refine Fv (.slice A578 n579 c580) ?_
            refine Fq (.pointer (some ⟨b593, 1, none⟩)) (r_field (k := 1) rfl ek kk) ?_
            refine Fl (.slice A568 n569 c570) (sgS (blk_cell (j := 1) x613 kk) (Option.some_ne_none _)) ?_
            refine Fv (.int .i64 (i : Int)) ?_
            obtain ⟨x722, hx723⟩ := get_of (zs := dl571) (k := i) (by have := hl575; omega)
            obtain ⟨b724, o725, hA726, hb727, hc728, hc729, hc730, hc731⟩ := Rd.elPipe kl0_2 hx723
            refine Fq (.pointer (some ⟨b724, o725 + i * 4, none⟩)) (r_idx (n := n569) (c := c570) (k := i) rfl ek hA726 kk kk (by have := hl575; omega)) ?_
            refine Fq (.pointer (some ⟨b724, o725 + i * 4, none⟩)) (r_field0 rfl ek kk) ?_
            refine Fl (.int .i64 x722.id) (sgS hc728 (by simp)) ?_
            refine Fc [.agg #[.int .i64 m567, .slice A568 n569 c570], .slice A578 n579 c580, .int .i64 x722.id] (ValvesAround_impl m567 A568 n569 c570 dl571 A578 n579 c580 dl581 x722.id w719 (Rd.kept kl0_2 (SG.below s721)) (Rd.kept kl0_0 (SG.below s721)) (by omega) (by omega) fm573 fm583) ?_
            rintro e w740 ⟨A732, d733, rfl, r734, b739⟩
            have s741 := SG.of_below s721 b739
            refine ⟨_, rfl, s741, ?_⟩
            refine F.nx ?_
            have rd735 := own_rd r734
            have hl737 : (ValvesAround_v0 m567 dl571 dl581 x722.id).length = (ValvesAround_v0 m567 dl571 dl581 x722.id).length := rfl
            have hb742 := ValvesAround_len m567 dl571 dl581 x722.id
            refine Fv (.tuple #[.slice A732 ((ValvesAround_v0 m567 dl571 dl581 x722.id).length) d733, .bool (ValvesAround_v1 m567 dl571 dl581 x722.id)]) ?_
            refine Fq (.slice A732 ((ValvesAround_v0 m567 dl571 dl581 x722.id).length) d733) (r_extract (vs := #[.slice A732 ((ValvesAround_v0 m567 dl571 dl581 x722.id).length) d733, .bool (ValvesAround_v1 m567 dl571 dl581 x722.id)]) rfl ek kk) ?_
            refine Fq (.bool (ValvesAround_v1 m567 dl571 dl581 x722.id)) (r_extract (vs := #[.slice A732 ((ValvesAround_v0 m567 dl571 dl581 x722.id).length) d733, .bool (ValvesAround_v1 m567 dl571 dl581 x722.id)]) rfl ek kk) ?_
            refine Fa (.slice A732 ((ValvesAround_v0 m567 dl571 dl581 x722.id).length) d733) ?_
            refine Fa (.bool (ValvesAround_v1 m567 dl571 dl581 x722.id)) ?_
            refine F.es ?_
            have x613 := SG.blk s741 x613 (Option.some_ne_none _)
            have c743 := (SG.belowR c717 s741 (fun kq e => by cases e))
            have rd744 := Rd.kept kl0_2 (SG.below s741)
            have rd745 := Rd.kept kl0_0 (SG.below s741)
            have rd746 := Rd.kept kl0_1 (SG.below s741)
            refine h77 _ _ ?_
            refine wk fun K78 h78 => ?_
            refine wk fun K79 h79 => ?_
            refine W.region_quiet [(0, false), (1, false)] kk ?_
            refine Fv (.bool (ValvesAround_v1 m567 dl571 dl581 x722.id)) ?_
            have q747 : (ValvesAround_v1 m567 dl571 dl581 x722.id) = true := around_ok q636 hx723
            rw [q747]
            refine Fq (.bool false) (r_not (b := true) rfl ek rfl) ?_
            refine F.es ?_
            refine h79 _ _ ?_
            refine wp_cond_false ek ?_
            refine wp_skip ?_
            refine h78 _ _ ?_
            refine wk fun K80 h80 => ?_
            refine W.region_quiet [(0, false)] kk ?_
            refine Fa (.int .i64 0) ?_
            refine F.es ?_
            refine h80 _ _ ?_
            refine wp_block ?_
            refine loopK (fun am1 aa1 wl1 => ∃ (k : Nat) , Kn aa1 [(2, .bool false), (24, .pointer (some ⟨b593, 0, none⟩)), (25, .slice A578 n579 c580), (26, .slice A625 ((NeedlessValves_v0 m567 dl571 dl581).length) d626), (27, .bool true), (30, .int .i64 (CountSegments_v0 m567 dl571 dl581)), (34, .int .i64 (i : Int)), (35, .slice A732 ((ValvesAround_v0 m567 dl571 dl581 x722.id).length) d733), (36, .bool true), (37, .int .i64 (k : Int)), (208, .bool true), (224, .bool false)] 253 ∧ (am1 = (ValvesAround_v0 m567 dl571 dl581 x722.id).length - k) ∧ (k ≤ (ValvesAround_v0 m567 dl571 dl581 x722.id).length) ∧ (wl1.heap[b593]? = some (.cells #[.int .i64 m567, .slice A568 n569 c570] 26 (0, 0))) ∧ (Rd wl1 4 A578 n579 (valvesV dl581)) ∧ (Rd wl1 1 A625 ((NeedlessValves_v0 m567 dl571 dl581).length) (intsV (NeedlessValves_v0 m567 dl571 dl581))) ∧ (Rd wl1 1 A732 ((ValvesAround_v0 m567 dl571 dl581 x722.id).length) (intsV (ValvesAround_v0 m567 dl571 dl581 x722.id))) ∧ (Rd wl1 4 A568 n569 (pipesV dl571)) ∧ (Below w.heap.size w wl1)) ((ValvesAround_v0 m567 dl571 dl581 x722.id).length - 0) ?_ ?_
            ·exact ⟨0, Kn.of, rfl, (Nat.zero_le _), x613, rd745, rd746, rd735, rd744, c743⟩
            rintro am1 aa1 wl1 K81 h81 ⟨k, ⟨U1, rfl⟩, rfl, hk, x613, kl1_0, kl1_1, kl1_2, kl1_3, c748⟩
            refine wk fun K82 h82 => ?_
            refine wk fun K83 h83 => ?_
            refine W.region_quiet [(0, false), (1, false), (2, false), (3, false)] kk ?_
            refine Fv (.int .i64 (k : Int)) ?_
            refine Fv (.slice A732 ((ValvesAround_v0 m567 dl571 dl581 x722.id).length) d733) ?_
            refine Fq (.int .i64 (((ValvesAround_v0 m567 dl571 dl581 x722.id).length : Nat) : Int)) (r_len (A := A732) (n := (ValvesAround_v0 m567 dl571 dl581 x722.id).length) (c := d733) rfl ek kk) ?_
            by_cases q749 : ((k : Int) : Int) < ((((ValvesAround_v0 m567 dl571 dl581 x722.id).length : Nat) : Int) : Int)
            ·refine Fq (.bool true) (r_lss (m := (k : Int)) (n := (((ValvesAround_v0 m567 dl571 dl581 x722.id).length : Nat) : Int)) rfl ek ek (decide_eq_true q749)) ?_
             refine F.es ?_
             refine h83 _ _ ?_
             as_aux_lemma =>
              refine wp_cond_true ek ?_
              refine wp_skip ?_
              refine h82 _ _ ?_
              refine wk fun K84 h84 => ?_
              refine wp_block ?_
              refine wk fun K85 h85 => ?_
              refine W.region_plain (row := none) [(0, false), (1, false), (2, false), (3, false), (4, false), (5, true)] kk ?_
              have s750 := SG.self wl1 none
              refine Fv (.slice A625 ((NeedlessValves_v0 m567 dl571 dl581).length) d626) ?_
              refine Fv (.slice A732 ((ValvesAround_v0 m567 dl571 dl581 x722.id).length) d733) ?_
              refine Fv (.int .i64 (k : Int)) ?_
              obtain ⟨x751, hx752⟩ := get_of (zs := (ValvesAround_v0 m567 dl571 dl581 x722.id)) (k := k) (by have := hl737; omega)
              obtain ⟨b753, o754, hA755, hb756, hc757⟩ := Rd.elInt kl1_2 hx752
              refine Fq (.pointer (some ⟨b753, o754 + k, none⟩)) (r_idx1 (n := (ValvesAround_v0 m567 dl571 dl581 x722.id).length) (c := d733) (k := k) rfl ek hA755 kk kk (by have := hl737; omega)) ?_
              refine Fl (.int .i64 x751) (sgS hc757 (by simp)) ?_
              refine Fc [.slice A625 ((NeedlessValves_v0 m567 dl571 dl581).length) d626, .int .i64 x751] (vHas_any A625 ((NeedlessValves_v0 m567 dl571 dl581).length) d626 (NeedlessValves_v0 m567 dl571 dl581) x751 _ (Rd.kept kl1_1 (SG.below s750)) (by omega)) ?_
              rintro e w759 ⟨rfl, b758⟩
              have s760 := SG.of_below s750 b758
              refine ⟨_, rfl, s760, ?_⟩
              refine F.nx ?_
              have q761 : ((NeedlessValves_v0 m567 dl571 dl581).contains x751) = false := need_not (show goodV _ _ _ = true from q636) (List.mem_of_getElem? hx752)
              rw [q761]
              refine F.es ?_
              have x613 := SG.blk s760 x613 (Option.some_ne_none _)
              have c762 := (SG.belowR c748 s760 (fun kq e => by cases e))
              have rd763 := Rd.kept kl1_3 (SG.below s760)
              have rd764 := Rd.kept kl1_0 (SG.below s760)
              have rd765 := Rd.kept kl1_1 (SG.below s760)
              have rd766 := Rd.kept kl1_2 (SG.below s760)
              refine h85 _ _ ?_
              refine wp_cond_false ek ?_
              refine wp_skip ?_
              refine h84 _ _ ?_
              refine W.region_quiet [(0, false), (1, false), (2, false)] kk ?_
              refine Fv (.int .i64 (k : Int)) ?_
              refine Fq (.int .i64 ((k + 1 : Nat) : Int)) (r_add (m := (k : Int)) (n := 1) (z := ((k + 1 : Nat) : Int)) rfl ek ek (by omega) (by omega)) ?_
              refine Fa (.int .i64 ((k + 1 : Nat) : Int)) ?_
              refine F.es ?_
              exact h81 _ _ _ (by omega : ((ValvesAround_v0 m567 dl571 dl581 x722.id).length - (k + 1)) < _) ⟨k + 1, Kn.of, rfl, (by omega), x613, rd764, rd765, rd766, rd763, c762⟩
            refine Fq (.bool false) (r_lss (m := (k : Int)) (n := (((ValvesAround_v0 m567 dl571 dl581 x722.id).length : Nat) : Int)) rfl ek ek (decide_eq_false q749)) ?_
            refine F.es ?_
            refine h83 _ _ ?_
            refine wp_cond_false ek ?_
            refine wp_exit ?_
            refine h76 _ _ ?_
            refine W.region_quiet [(0, false), (1, false), (2, false)] kk ?_
            refine Fv (.int .i64 (i : Int)) ?_
            refine Fq (.int .i64 ((i + 1 : Nat) : Int)) (r_add (m := (i : Int)) (n := 1) (z := ((i + 1 : Nat) : Int)) rfl ek ek (by omega) (by omega)) ?_
            refine Fa (.int .i64 ((i + 1 : Nat) : Int)) ?_
            refine F.es ?_
            exact h73 _ _ _ (by omega : (n569 - (i + 1)) < _) ⟨i + 1, Kn.of, rfl, (by omega), x613, kl1_0, kl1_1, kl1_3, c748⟩
          refine Fq (.bool false) (r_lss (m := (i : Int)) (n := (n569 : Int)) rfl ek ek (decide_eq_false q718)) ?_
          refine Fv (.bool false) ?_
          refine Fs rfl ?_
          refine Fq (.bool false) (r_pick (b := false) rfl ek ek) ?_
          refine F.es ?_
          refine h75 _ _ ?_
          refine wp_cond_false ek ?_
          refine wp_exit ?_
          refine h71 _ _ ?_
          refine wk fun K86 h86 => ?_
          refine W.region_quiet [(0, false), (1, false), (2, false), (3, false), (4, false), (5, false), (6, false), (7, false), (8, false), (9, false), (10, false), (11, false), (12, false), (13, false), (14, false), (15, false), (16, false)] kk ?_
          refine Fv (.bool true) ?_
          refine Fq (.bool false) (r_not (b := true) rfl ek rfl) ?_
          refine Fv (.bool false) ?_
          refine Fv (.int .i64 (CountSegments_v0 m567 dl571 dl581)) ?_
          refine Fq (.bool true) (r_geq (m := (CountSegments_v0 m567 dl571 dl581)) (n := 1) rfl ek ek (decide_eq_true ((cnt_fact q636).1))) ?_
          refine Fv (.bool true) ?_
          refine Fv (.int .i64 (CountSegments_v0 m567 dl571 dl581)) ?_
          refine Fq (.pointer (some ⟨b593, 0, none⟩)) (r_field0 rfl ek kk) ?_
          refine Fl (.int .i64 m567) (eqS (blk_cell (j := 0) x613 kk)) ?_
          refine Fq (.pointer (some ⟨b593, 1, none⟩)) (r_field (k := 1) rfl ek kk) ?_
          refine Fl (.slice A568 n569 c570) (eqS (blk_cell (j := 1) x613 kk)) ?_
          refine Fq (.int .i64 (n569 : Int)) (r_len (A := A568) (n := n569) (c := c570) rfl ek kk) ?_
          refine Fq (.int .i64 (m567 + (n569 : Int))) (r_add (m := m567) (n := (n569 : Int)) (z := m567 + (n569 : Int)) rfl ek ek (rfl) (by omega)) ?_
          refine Fq (.bool true) (r_leq (m := (CountSegments_v0 m567 dl571 dl581)) (n := m567 + (n569 : Int)) rfl ek ek (decide_eq_true (by have h9 := (cnt_fact q636).2; omega))) ?_
          refine Fq (.bool true) (r_pick (b := true) rfl ek ek) ?_
          refine Fq (.bool true) (r_pick (b := false) rfl ek ek) ?_
          refine Fa (.bool true) ?_
          refine F.es ?_
          refine h86 _ _ ?_
          as_aux_lemma =>
           refine wp_ret ?_
           try simp only [Exit.then]
           refine ret1 (v := .bool true) rfl kk ?_
           exact ⟨rfl, c717⟩
       rw [q636]
       refine Fv (.tuple #[.slice A625 ((NeedlessValves_v0 m567 dl571 dl581).length) d626, .bool false]) ?_
       refine Fq (.slice A625 ((NeedlessValves_v0 m567 dl571 dl581).length) d626) (r_extract (vs := #[.slice A625 ((NeedlessValves_v0 m567 dl571 dl581).length) d626, .bool false]) rfl ek kk) ?_
       refine Fq (.bool false) (r_extract (vs := #[.slice A625 ((NeedlessValves_v0 m567 dl571 dl581).length) d626, .bool false]) rfl ek kk) ?_
       refine Fa (.slice A625 ((NeedlessValves_v0 m567 dl571 dl581).length) d626) ?_
       refine Fa (.bool false) ?_
       refine F.es ?_
       have x613 := SG.blk s634 x613 (Option.some_ne_none _)
       have c767 := (SG.belowR c617 s634 (fun kq e => by cases e))
       have rd774 := Rd.kept rd615 (SG.below s634)
       have rd775 := Rd.kept rd616 (SG.below s634)
       refine h63 _ _ ?_
       refine wk fun K87 h87 => ?_
       refine wk fun K88 h88 => ?_
       refine W.region_plain (row := none) [(0, false), (1, false), (2, true), (3, false), (4, false), (5, false), (6, false), (7, false)] kk ?_
       have s776 := SG.self w633 none
       refine Fq (.agg #[.int .i64 m567, .slice A568 n569 c570]) (r_load2 rfl ek kk kk (sgS (blk_cell (j := 0) x613 kk) (Option.some_ne_none _)) (sgS (blk_cell (j := 1) x613 kk) (Option.some_ne_none _))) ?_
       refine Fv (.slice A578 n579 c580) ?_
       refine Fc [.agg #[.int .i64 m567, .slice A568 n569 c570], .slice A578 n579 c580] (NeedlessValves_spec m567 A568 n569 c570 dl571 A578 n579 c580 dl581  w633 (Rd.kept rd774 (SG.below s776)) (Rd.kept rd775 (SG.below s776)) (by omega) (by omega) fm573 fm583) ?_
       rintro e w785 ⟨A777, d778, rfl, r779, b784⟩
       have s786 := SG.of_below s776 b784
       refine ⟨_, rfl, s786, ?_⟩
       refine F.nx ?_
       have hl782 : (NeedlessValves_v0 m567 dl571 dl581).length = (NeedlessValves_v0 m567 dl571 dl581).length := rfl
       rw [q636]
       refine Fv (.tuple #[.slice A777 ((NeedlessValves_v0 m567 dl571 dl581).length) d778, .bool false]) ?_
       refine Fq (.slice A777 ((NeedlessValves_v0 m567 dl571 dl581).length) d778) (r_extract (vs := #[.slice A777 ((NeedlessValves_v0 m567 dl571 dl581).length) d778, .bool false]) rfl ek kk) ?_
       refine Fq (.bool false) (r_extract (vs := #[.slice A777 ((NeedlessValves_v0 m567 dl571 dl581).length) d778, .bool false]) rfl ek kk) ?_
       refine Fa (.slice A777 ((NeedlessValves_v0 m567 dl571 dl581).length) d778) ?_
       refine Fa (.bool false) ?_
       refine F.es ?_
       have x613 := SG.blk s786 x613 (Option.some_ne_none _)
       have c788 := (SG.belowR c767 s786 (fun kq e => by cases e))
       have rd795 := Rd.kept rd774 (SG.below s786)
       have rd796 := Rd.kept rd775 (SG.below s786)
       have rd797 := Rd.kept rd628 (SG.below s786)
       refine h88 _ _ ?_
       refine wk fun K89 h89 => ?_
       refine W.region_plain (row := none) [(0, false), (1, false), (2, false), (3, false), (4, false), (5, false), (6, true), (7, false), (8, false)] kk ?_
       have s798 := SG.self w785 none
       refine Fv (.bool false) ?_
       refine Fv (.bool false) ?_
       refine Fq (.bool false) (r_neqB (m := false) (n := false) rfl ek ek kk rfl) ?_
       refine Fv (.bool false) ?_
       refine Fv (.slice A625 ((NeedlessValves_v0 m567 dl571 dl581).length) d626) ?_
       refine Fv (.slice A777 ((NeedlessValves_v0 m567 dl571 dl581).length) d778) ?_
       refine Fc [.slice A625 ((NeedlessValves_v0 m567 dl571 dl581).length) d626, .slice A777 ((NeedlessValves_v0 m567 dl571 dl581).length) d778] (vInts_same A625 A777 ((NeedlessValves_v0 m567 dl571 dl581).length) d626 d778 (NeedlessValves_v0 m567 dl571 dl581) _ (Rd.kept rd797 (SG.below s798)) (Rd.kept r779 (SG.below s798)) (by omega)) ?_
       rintro e w800 ⟨rfl, b799⟩
       have s801 := SG.of_below s798 b799
       refine ⟨_, rfl, s801, ?_⟩
       refine F.nx ?_
       refine Fq (.bool false) (r_not (b := true) rfl ek rfl) ?_
       refine Fq (.bool false) (r_pick (b := false) rfl ek ek) ?_
       refine F.es ?_
       have x613 := SG.blk s801 x613 (Option.some_ne_none _)
       have c802 := (SG.belowR c788 s801 (fun kq e => by cases e))
       have rd809 := Rd.kept rd795 (SG.below s801)
       have rd810 := Rd.kept rd796 (SG.below s801)
       have rd811 := Rd.kept rd797 (SG.below s801)
       refine h89 _ _ ?_
       as_aux_lemma =>
        refine wp_cond_false ek ?_
        refine wp_skip ?_
        refine h87 _ _ ?_
        refine wk fun K90 h90 => ?_
        refine W.region_plain (row := none) [(0, false), (1, false), (2, true), (3, false), (4, false), (5, false), (6, false), (7, false)] kk ?_
        have s813 := SG.self w800 none
        refine Fq (.agg #[.int .i64 m567, .slice A568 n569 c570]) (r_load2 rfl ek kk kk (sgS (blk_cell (j := 0) x613 kk) (Option.some_ne_none _)) (sgS (blk_cell (j := 1) x613 kk) (Option.some_ne_none _))) ?_
        refine Fv (.slice A578 n579 c580) ?_
        have hc814 := CountSegments_impl m567 A568 n569 c570 dl571 A578 n579 c580 dl581  w800 (Rd.kept rd809 (SG.below s813)) (Rd.kept rd810 (SG.below s813)) (by omega) (by omega) fm573 fm583
        rw [show CountSegments_v1 m567 dl571 dl581 = NeedlessValves_v1 m567 dl571 dl581 from rfl] at hc814
        refine Fc [.agg #[.int .i64 m567, .slice A568 n569 c570], .slice A578 n579 c580] (hc814) ?_
        rintro e w816 ⟨rfl, b815⟩
        have s817 := SG.of_below s813 b815
        refine ⟨_, rfl, s817, ?_⟩
        refine F.nx ?_
        rw [q636]
        refine Fv (.tuple #[.int .i64 (CountSegments_v0 m567 dl571 dl581), .bool false]) ?_
        refine Fq (.int .i64 (CountSegments_v0 m567 dl571 dl581)) (r_extract (vs := #[.int .i64 (CountSegments_v0 m567 dl571 dl581), .bool false]) rfl ek kk) ?_
        refine Fq (.bool false) (r_extract (vs := #[.int .i64 (CountSegments_v0 m567 dl571 dl581), .bool false]) rfl ek kk) ?_
        refine Fa (.int .i64 (CountSegments_v0 m567 dl571 dl581)) ?_
        refine Fa (.bool false) ?_
        refine F.es ?_
        have x613 := SG.blk s817 x613 (Option.some_ne_none _)
        have c819 := (SG.belowR c802 s817 (fun kq e => by cases e))
        have rd826 := Rd.kept rd809 (SG.below s817)
        have rd827 := Rd.kept rd810 (SG.below s817)
        have rd828 := Rd.kept rd811 (SG.below s817)
        refine h90 _ _ ?_
        refine wk fun K91 h91 => ?_
        refine wk fun K92 h92 => ?_
        refine W.region_plain (row := none) [(0, false), (1, false), (2, true), (3, false), (4, false), (5, false), (6, false), (7, false)] kk ?_
        have s830 := SG.self w816 none
        refine Fq (.agg #[.int .i64 m567, .slice A568 n569 c570]) (r_load2 rfl ek kk kk (sgS (blk_cell (j := 0) x613 kk) (Option.some_ne_none _)) (sgS (blk_cell (j := 1) x613 kk) (Option.some_ne_none _))) ?_
        refine Fv (.slice A578 n579 c580) ?_
        have hc831 := CountSegments_spec m567 A568 n569 c570 dl571 A578 n579 c580 dl581  w816 (Rd.kept rd826 (SG.below s830)) (Rd.kept rd827 (SG.below s830)) (by omega) (by omega) fm573 fm583
        rw [show CountSegments_v1 m567 dl571 dl581 = NeedlessValves_v1 m567 dl571 dl581 from rfl] at hc831
        refine Fc [.agg #[.int .i64 m567, .slice A568 n569 c570], .slice A578 n579 c580] (hc831) ?_
        rintro e w833 ⟨rfl, b832⟩
        have s834 := SG.of_below s830 b832
        refine ⟨_, rfl, s834, ?_⟩
        refine F.nx ?_
        rw [q636]
        refine Fv (.tuple #[.int .i64 (CountSegments_v0 m567 dl571 dl581), .bool false]) ?_
        refine Fq (.int .i64 (CountSegments_v0 m567 dl571 dl581)) (r_extract (vs := #[.int .i64 (CountSegments_v0 m567 dl571 dl581), .bool false]) rfl ek kk) ?_
        refine Fq (.bool false) (r_extract (vs := #[.int .i64 (CountSegments_v0 m567 dl571 dl581), .bool false]) rfl ek kk) ?_
        refine Fa (.int .i64 (CountSegments_v0 m567 dl571 dl581)) ?_
        refine Fa (.bool false) ?_
        refine F.es ?_
        have x613 := SG.blk s834 x613 (Option.some_ne_none _)
        have c836 := (SG.belowR c819 s834 (fun kq e => by cases e))
        have rd843 := Rd.kept rd826 (SG.below s834)
        have rd844 := Rd.kept rd827 (SG.below s834)
        have rd845 := Rd.kept rd828 (SG.below s834)
        refine h92 _ _ ?_
        as_aux_lemma =>
         refine wk fun K93 h93 => ?_
         refine W.region_quiet [(0, false), (1, false), (2, false), (3, false), (4, false), (5, false), (6, false), (7, false), (8, false), (9, false), (10, false), (11, false), (12, false)] kk ?_
         refine Fv (.int .i64 (CountSegments_v0 m567 dl571 dl581)) ?_
         refine Fv (.int .i64 (CountSegments_v0 m567 dl571 dl581)) ?_
         refine Fq (.bool false) (r_neq (m := (CountSegments_v0 m567 dl571 dl581)) (n := (CountSegments_v0 m567 dl571 dl581)) rfl ek ek (decide_eq_false (by omega))) ?_
         refine Fv (.bool false) ?_
         refine Fv (.bool false) ?_
         refine Fv (.bool false) ?_
         refine Fq (.bool false) (r_neqB (m := false) (n := false) rfl ek ek kk rfl) ?_
         refine Fq (.bool false) (r_pick (b := false) rfl ek ek) ?_
         refine Fv (.bool false) ?_
         refine Fv (.bool false) ?_
         refine Fv (.bool false) ?_
         refine Fq (.bool false) (r_neqB (m := false) (n := false) rfl ek ek kk rfl) ?_
         refine Fq (.bool false) (r_pick (b := false) rfl ek ek) ?_
         refine F.es ?_
         refine h93 _ _ ?_
         refine wp_cond_false ek ?_
         refine wp_skip ?_
         refine h91 _ _ ?_
         refine wk fun K94 h94 => ?_
         refine wk fun K95 h95 => ?_
         refine W.region_quiet [(0, false)] kk ?_
         refine Fa (.int .i64 0) ?_
         refine F.es ?_
         refine h95 _ _ ?_
         refine wp_block ?_
         refine loopK (fun am0 aa0 wl0 => ∃ (i : Nat) , Kn aa0 [(2, .bool false), (24, .pointer (some ⟨b593, 0, none⟩)), (25, .slice A578 n579 c580), (26, .slice A625 ((NeedlessValves_v0 m567 dl571 dl581).length) d626), (27, .bool false), (30, .int .i64 (CountSegments_v0 m567 dl571 dl581)), (34, .int .i64 (i : Int))] 253 ∧ (am0 = n569 - i) ∧ (i ≤ n569) ∧ (wl0.heap[b593]? = some (.cells #[.int .i64 m567, .slice A568 n569 c570] 26 (0, 0))) ∧ (Rd wl0 4 A578 n579 (valvesV dl581)) ∧ (Rd wl0 1 A625 ((NeedlessValves_v0 m567 dl571 dl581).length) (intsV (NeedlessValves_v0 m567 dl571 dl581))) ∧ (Rd wl0 4 A568 n569 (pipesV dl571)) ∧ (Below w.heap.size w wl0)) (n569 - 0) ?_ ?_
         ·exact ⟨0, Kn.of, rfl, (Nat.zero_le _), x613, rd844, rd845, rd843, c836⟩
         rintro am0 aa0 wl0 K96 h96 ⟨i, ⟨U0, rfl⟩, rfl, hi, x613, kl0_0, kl0_1, kl0_2, c847⟩
         refine wk fun K97 h97 => ?_
         refine wk fun K98 h98 => ?_
         refine W.region_quiet [(0, false), (1, false), (2, false), (3, false), (4, false), (5, false), (6, false), (7, false)] kk ?_
         refine Fv (.int .i64 (i : Int)) ?_
         refine Fq (.pointer (some ⟨b593, 1, none⟩)) (r_field (k := 1) rfl ek kk) ?_
         refine Fl (.slice A568 n569 c570) (eqS (blk_cell (j := 1) x613 kk)) ?_
         refine Fq (.int .i64 (n569 : Int)) (r_len (A := A568) (n := n569) (c := c570) rfl ek kk) ?_
         by_cases q848 : ((i : Int) : Int) < ((n569 : Int) : Int)
         ·refine Fq (.bool true) (r_lss (m := (i : Int)) (n := (n569 : Int)) rfl ek ek (decide_eq_true q848)) ?_
          refine Fv (.bool true) ?_
          refine Fv (.bool false) ?_
          refine Fq (.bool false) (r_pick (b := true) rfl ek ek) ?_
          refine F.es ?_
          refine h98 _ _ ?_
          refine wp_cond_false ek ?_
          refine wp_exit ?_
          refine h94 _ _ ?_
          refine wk fun K99 h99 => ?_
          refine W.region_quiet [(0, false), (1, false), (2, false), (3, false), (4, false), (5, false), (6, false), (7, false), (8, false), (9, false), (10, false), (11, false), (12, false), (13, false), (14, false), (15, false), (16, false)] kk ?_
          refine Fv (.bool false) ?_
          refine Fq (.bool true) (r_not (b := false) rfl ek rfl) ?_
          refine Fv (.bool true) ?_
          refine Fs rfl ?_
          refine Fs rfl ?_
          refine Fs rfl ?_
          refine Fs rfl ?_
          refine Fs rfl ?_
          refine Fs rfl ?_
          refine Fs rfl ?_
          refine Fs rfl ?_
          refine Fs rfl ?_
          refine Fs rfl ?_
          refine Fs rfl ?_
          refine Fs rfl ?_
          refine Fq (.bool true) (r_pick (b := true) rfl ek ek) ?_
          refine Fa (.bool true) ?_
          refine F.es ?_
          refine h99 _ _ ?_
          as_aux_lemma =>
           refine wp_ret ?_
           try simp only [Exit.then]
           refine ret1 (v := .bool true) rfl kk ?_
           exact ⟨rfl, c847⟩
         refine Fq (.bool false) (r_lss (m := (i : Int)) (n := (n569 : Int)) rfl ek ek (decide_eq_false q848)) ?_
         refine Fv (.bool false) ?_
         refine Fs rfl ?_
         refine Fq (.bool false) (r_pick (b := false) rfl ek ek) ?_
         refine F.es ?_
         refine h98 _ _ ?_
         refine wp_cond_false ek ?_
         refine wp_exit ?_
         refine h94 _ _ ?_
         refine wk fun K100 h100 => ?_
         refine W.region_quiet [(0, false), (1, false), (2, false), (3, false), (4, false), (5, false), (6, false), (7, false), (8, false), (9, false), (10, false), (11, false), (12, false), (13, false), (14, false), (15, false), (16, false)] kk ?_
         refine Fv (.bool false) ?_
         refine Fq (.bool true) (r_not (b := false) rfl ek rfl) ?_
         refine Fv (.bool true) ?_
         refine Fs rfl ?_
         refine Fs rfl ?_
         refine Fs rfl ?_
         refine Fs rfl ?_
         refine Fs rfl ?_
         refine Fs rfl ?_
         refine Fs rfl ?_
         refine Fs rfl ?_
         refine Fs rfl ?_
         refine Fs rfl ?_
         refine Fs rfl ?_
         refine Fs rfl ?_
         refine Fq (.bool true) (r_pick (b := true) rfl ek ek) ?_
         refine Fa (.bool true) ?_
         refine F.es ?_
         refine h100 _ _ ?_
         refine wp_ret ?_
         try simp only [Exit.then]
         refine ret1 (v := .bool true) rfl kk ?_
         exact ⟨rfl, c847⟩
   intro K101 h101
   refine wk fun K102 h102 => ?_
   refine W.region_quiet [(0, false)] kk ?_
   refine Fv (.bool (TurnValve_v1 m10 dl14 dl24 x31 x32)) ?_
   refine F.es ?_
   refine h102 _ _ ?_
   rcases Bool.eq_false_or_eq_true (TurnValve_v1 m10 dl14 dl24 x31 x32) with q849 | q849
   ·rw [q849]
    refine wp_cond_true ek ?_
    refine wk fun K103 h103 => ?_
    refine W.region_plain (row := none) [(0, false), (1, false), (2, false), (3, false), (4, false), (5, true), (6, false), (7, false), (8, false), (9, false), (10, false)] kk ?_
    have s850 := SG.self w87 none
    refine Fq (.agg #[.int .i64 m10, .slice A11 n12 c13]) (r_load2 rfl ek kk kk (sgS (blk_cell (j := 0) x49 kk) (Option.some_ne_none _)) (sgS (blk_cell (j := 1) x49 kk) (Option.some_ne_none _))) ?_
    refine Fv (.slice A55 ((TurnValve_v0 m10 dl14 dl24 x31 x32).length) d56) ?_
    refine Fv (.int .i64 x31) ?_
    refine Fv (.bool x32) ?_
    refine Fq (.bool (!x32)) (r_not (b := x32) rfl ek rfl) ?_
    have htb := turn_back q849
    have hc851 := TurnValve_impl m10 A11 n12 c13 dl14 A55 ((TurnValve_v0 m10 dl14 dl24 x31 x32).length) d56 (TurnValve_v0 m10 dl14 dl24 x31 x32) x31 (!x32) w87 (Rd.kept rd90 (SG.below s850)) (Rd.kept rd92 (SG.below s850)) (by omega) (by omega) fm16 fm59
    rw [htb.1, htb.2] at hc851
    refine Fc [.agg #[.int .i64 m10, .slice A11 n12 c13], .slice A55 ((TurnValve_v0 m10 dl14 dl24 x31 x32).length) d56, .int .i64 x31, .bool (!x32)] (hc851) ?_
    rintro e w860 ⟨A852, d853, rfl, r854, b859⟩
    have s861 := SG.of_below s850 b859
    refine ⟨_, rfl, s861, ?_⟩
    refine F.nx ?_
    have rd855 := own_rd r854
    have hl857 : dl24.length = dl24.length := rfl
    refine Fv (.tuple #[.slice A852 dl24.length d853, .bool true]) ?_
    refine Fq (.slice A852 dl24.length d853) (r_extract (vs := #[.slice A852 dl24.length d853, .bool true]) rfl ek kk) ?_
    refine Fq (.bool true) (r_extract (vs := #[.slice A852 dl24.length d853, .bool true]) rfl ek kk) ?_
    refine Fa (.slice A852 dl24.length d853) ?_
    refine Fa (.bool true) ?_
    refine F.es ?_
    have c862 := (SG.belowR c89 s861 (fun kq e => by cases e))
    have rd864 := Rd.kept rd91 (SG.below s861)
    refine h103 _ _ ?_
    as_aux_lemma =>
     refine wk fun K104 h104 => ?_
     refine W.region_plain (row := none) [(0, false), (1, false), (2, false), (3, false), (4, false), (5, true), (6, false), (7, false)] kk ?_
     have s867 := SG.self w860 none
     refine Fv (.bool true) ?_
     refine Fq (.bool false) (r_not (b := true) rfl ek rfl) ?_
     refine Fv (.bool false) ?_
     refine Fv (.slice A852 dl24.length d853) ?_
     refine Fv (.slice A21 n22 c23) ?_
     refine Fc [.slice A852 dl24.length d853, .slice A21 n22 c23] (vValves_same2 A852 A21 dl24.length n22 d853 c23 dl24 _ (Rd.kept rd855 (SG.below s867)) (Rd.kept rd864 (SG.below s867)) (by omega)) ?_
     rintro e w869 ⟨rfl, b868⟩
     have s870 := SG.of_below s867 b868
     refine ⟨_, rfl, s870, ?_⟩
     refine F.nx ?_
     refine Fq (.bool false) (r_not (b := true) rfl ek rfl) ?_
     refine Fq (.bool false) (r_pick (b := false) rfl ek ek) ?_
     refine F.es ?_
     have c871 := (SG.belowR c862 s870 (fun kq e => by cases e))
     refine h104 _ _ ?_
     refine wp_cond_false ek ?_
     refine wp_skip ?_
     exact h101 _ _ _ ⟨Kn.of, rfl, c871⟩
   rw [q849]
   refine wp_cond_false ek ?_
   refine wp_skip ?_
   exact h101 _ _ _ ⟨Kn.of, rfl, c89⟩
theorem byte_of {n : Int} (h : (Lit.int .u8 n).wf = true) : 0 ≤ n ∧ n < 256 := by
  have h2 : (decide ((0 : Int) ≤ n) && decide (n ≤ 255)) = true := h
  simp only [Bool.and_eq_true, decide_eq_true_eq] at h2
  omega
theorem w_FnValves (x0 : Option Addr) (n0 p0 : Nat) (a0 : List Int) (w : World) (H0 : a0.length = n0 ∧ Rd w 1 x0 n0 (a0.map (Value.int .u8)) ∧ n0 ≤ maxLen ∧ ∀ n ∈ a0, (Lit.int .u8 n).wf = true) :
    Calls Try.prog 4 #[.slice x0 n0 p0] w fun e w' => e = .returned (.bool true) ∧ Below w.heap.size w w' :=
  wi_FnValves x0 n0 p0 a0 w H0.2.1 (fun z hz => byte_of (H0.2.2.2 z hz)) (by have := H0.2.2.1; unfold maxLen at this; omega)
end Go.Proofs.Ytdbgfejeleafgaa
namespace Go.Proofs.Ytdbgfejeleafgaa
open Go.RowKit Go.ChangeShapes Go.WideShapes Go.Deep Go.Joins
set_option linter.unusedVariables false
section
variable {H : Type} {enc : TypeId × Value → H} {P : Program} {w : World} {base : Nat} {spare : Nat → Bool} {held : Bool}
theorem addr_form {a : Addr} {u : Value} (h : w.cell? (a.add 0) = some u) : ∃ b off, a = ⟨b, off, none⟩ ∧ b < w.heap.size := by
  obtain ⟨b, off, spot⟩ := a
  have e : (⟨b, off, spot⟩ : Addr).add 0 = ⟨b, off, spot⟩ := by simp [Addr.add]
  rw [e] at h
  have hs : spot = none := World.cell?_spot h
  subst hs
  exact ⟨b, off, rfl, World.block_lt_of_cell? w _ h⟩
theorem add_form (b off j : Nat) : (⟨b, off, none⟩ : Addr).add j = ⟨b, off + j, none⟩ := by
  unfold Addr.add
  by_cases h : j = 0
  · subst h; simp
  · simp [h]
theorem open_nums {t e : TypeId} {k : IntKind} {A : Option Addr} {len cap : Nat} {d : DataW H} {p : List MemPlace} (ht : P.underlying t = some (.slice e)) (he : P.underlying e = some (.int k)) (hc : P.cellsOf e = 1)
    (h : DataW.Trod enc P w base spare held t (.slice A len cap) d p) :
    ∃ zs : List Int, zs.length = len ∧ Rd w 1 A len (zs.map (Value.int k)) ∧ len ≤ maxLen ∧ ∀ n ∈ zs, (Lit.int k n).wf = true := by
  obtain ⟨fuel, hf⟩ := h
  rcases open_ints ht he hc hf with ⟨hcs, _⟩ | ⟨x, l, c, zs, hcs, _, hl, hm, hz, _, hcell, hwz⟩
  · simp [Value.cells] at hcs
    obtain ⟨rfl, rfl, rfl⟩ := hcs
    exact ⟨[], rfl, Rd.nil, Nat.zero_le _, fun n hn => by cases hn⟩
  · simp [Value.cells] at hcs
    obtain ⟨rfl, rfl, rfl⟩ := hcs
    have hle : len ≤ zs.length := by rw [hz]; split <;> omega
    refine ⟨zs.take len, by simp; omega, ⟨by simp; omega, fun hn => ?_⟩, by omega, fun n hn => hwz n (List.mem_of_mem_take hn)⟩
    obtain ⟨b, off, rfl, hb⟩ := addr_form (hcell 0 (by omega))
    refine ⟨b, off, rfl, hb, fun j u hu => ?_⟩
    rw [List.getElem?_map, List.getElem?_take] at hu
    split at hu
    · rename_i hj
      have := hcell j (by omega)
      rw [add_form] at this
      rw [this]
      rw [List.getElem?_eq_getElem (by omega)] at hu
      simp at hu
      rw [← hu, List.getD_eq_getElem?_getD, List.getElem?_eq_getElem (by omega)]; rfl
    · simp at hu
end
end Go.Proofs.Ytdbgfejeleafgaa
