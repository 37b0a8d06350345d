/- What the texts behind it build on; conditions: none. -/
import Derived.Test.YtdbgfejeleafgaaPs9
import Derived.Test.YtdbgfejeleafgaaRows
import Derived.ProofKit
import Derived.OpenShut
import Derived.Lib.SmallJoins
import Derived.Deep.Slices
import Derived.Deep.Fields
namespace Go.Proofs.Ytdbgfejeleafgaa
open Go.RowKit
set_option linter.unusedVariables false
set_option linter.unusedSimpArgs false
theorem seg_in {m : Int} {ps : List Pp} {vs : List Vv} {a b : Int} {i : Nat} (hx : (SegmentOfPipe_v0 m ps vs a)[i]? = some b) : SegmentOfNode_v2 m ps vs b = true ∧ SegmentOfNode_v0 m ps vs b = SegmentOfPipe_v0 m ps vs a ∧ SegmentOfNode_v1 m ps vs b = SegmentOfPipe_v1 m ps vs a := by
  by_cases h : SegmentOfPipe_v2 m ps vs a = true
  · exact seg_node h (List.mem_of_getElem? hx)
  · have e : SegmentOfPipe_v0 m ps vs a = [] := if_neg h
    rw [e] at hx; simp at hx
theorem mix_self (vs : List Vv) (pl : List Int) (i : Nat) : (mixV vs pl i)[i]? = vs[i]? := by
  cases h : vs[i]? with
  | some x => exact mixV_at h
  | none =>
    have := List.getElem?_eq_none_iff.1 h
    exact List.getElem?_eq_none (by rw [mixV_len]; exact this)
theorem seg_good {m : Int} {ps : List Pp} {vs : List Vv} {a : Int} (h : SegmentOfPipe_v2 m ps vs a = true) : goodV m ps vs = true := (Bool.and_eq_true_iff.1 (show (goodV m ps vs && decide (0 ≤ findL ps a)) = true from h)).1
theorem dry_ok {m : Int} {ps : List Pp} {vs : List Vv} {a s : Int} (h : SegmentOfPipe_v2 m ps vs a = true) (hs : 1 ≤ s ∧ s ≤ m) : DryNodes_v1 m ps (shutV vs (ValvesAround_v0 m ps vs a)) s = true ∧ DryPipes_v1 m ps (shutV vs (ValvesAround_v0 m ps vs a)) s = true := by
  have hg2 := goodV_shutV (seg_good h) (ValvesAround_v0 m ps vs a)
  have e : DryNodes_v1 m ps (shutV vs (ValvesAround_v0 m ps vs a)) s = true := by unfold DryNodes_v1; rw [hg2, inB_iff.2 hs]; rfl
  exact ⟨e, e⟩
set_option maxRecDepth 100000 in
set_option maxHeartbeats 8000000 in
theorem wi_FnSegments (A : Option Addr) (n c : Nat) (zs : List Int) (w : World) (hcode : Rd w 1 A n (bytesV zs)) (hz : ∀ z ∈ zs, 0 ≤ z ∧ z < 256) (hn : n ≤ 9223372036854775807) :
    Calls Try.prog 3 #[.slice A n c] w fun e w' => e = .returned (.bool true) ∧ Below w.heap.size w w' := by
 have hl := rd_bytes_len hcode
 go_enter Try.func3, Try.ntmps3
 refine F.begin 273 [(0, .slice A n c)] (fun U0 => ?_)
 refine wk fun K1 h1 => ?_
 refine W.region_quiet [(0, false)] kk ?_
 refine Fa (.bool false) ?_
 refine F.es ?_
 refine h1 _ _ ?_
 refine wk fun K2 h2 => ?_
 refine wk fun K3 h3 => ?_
 refine W.region_plain (row := none) [(0, false), (1, true)] kk ?_
 have s1 := SG.self w none
 refine Fv (.slice A n c) ?_
 refine Fc [.slice A n c] (vBig_any A n c zs _ (Rd.kept hcode (SG.belowR (Below.refl _ _) s1 (fun kq e => by cases e))) hz hn) ?_
 rintro e w3 ⟨rfl, b2⟩
 have s4 := SG.of_below s1 b2
 refine ⟨_, rfl, s4, ?_⟩
 refine F.nx ?_
 rcases Bool.eq_false_or_eq_true (decide (65536 < n)) with q5 | q5
 ·rw [q5]
  refine F.es ?_
  have c6 := (SG.belowR (Below.refl _ _) s4 (fun kq e => by cases e))
  refine h3 _ _ ?_
  refine wp_cond_true ek ?_
  refine wk fun K4 h4 => ?_
  refine W.region_quiet [(0, false)] kk ?_
  refine Fa (.bool true) ?_
  refine F.es ?_
  refine h4 _ _ ?_
  refine wp_ret ?_
  try simp only [Exit.then]
  refine ret1 (v := .bool true) rfl kk ?_
  exact ⟨rfl, c6⟩
 rw [q5]
 refine F.es ?_
 have c7 := (SG.belowR (Below.refl _ _) s4 (fun kq e => by cases e))
 refine h3 _ _ ?_
 refine wp_cond_false ek ?_
 refine wp_skip ?_
 refine h2 _ _ ?_
 refine wk fun K5 h5 => ?_
 refine W.region_plain (row := none) [(0, false), (1, true), (2, false), (3, false), (4, false), (5, false), (6, true), (7, true), (8, false), (9, false)] kk ?_
 have s8 := SG.self w3 none
 refine Fv (.slice A n c) ?_
 have z9 := ((SG.belowR c7 s8 (fun kq e => by cases e))).size
 refine Fc [.slice A n c] (DrawSegmentOfPipe_any A n c zs _ (Rd.kept hcode (SG.belowR c7 s8 (fun kq e => by cases e))) hz (by have h9 := of_decide_eq_false q5; omega)) ?_
 rintro e w33 ⟨m10, A11, n12, c13, dl14, A21, n22, c23, dl24, x31, rfl, ⟨⟨rd15, fm16, fr20⟩, hsm17⟩, ⟨⟨rd25, fm26, fr30⟩, hsm27⟩, b32⟩
 have s34 := SG.of_below s8 b32
 refine ⟨_, rfl, s34, ?_⟩
 refine F.nx ?_
 have hl18 := rd_pipes_len rd15
 have hsm17m := hsm17.1
 have hsm17n := hsm17.2.1
 have hl28 := rd_valves_len rd25
 refine Fv (.tuple #[.agg #[.int .i64 m10, .slice A11 n12 c13], .slice A21 n22 c23, .int .i64 x31]) ?_
 refine Fq (.agg #[.int .i64 m10, .slice A11 n12 c13]) (r_extract (vs := #[.agg #[.int .i64 m10, .slice A11 n12 c13], .slice A21 n22 c23, .int .i64 x31]) rfl ek kk) ?_
 refine Fq (.slice A21 n22 c23) (r_extract (vs := #[.agg #[.int .i64 m10, .slice A11 n12 c13], .slice A21 n22 c23, .int .i64 x31]) rfl ek kk) ?_
 refine Fq (.int .i64 x31) (r_extract (vs := #[.agg #[.int .i64 m10, .slice A11 n12 c13], .slice A21 n22 c23, .int .i64 x31]) rfl ek kk) ?_
 refine W.sn (fun b => .pointer (some ⟨b, 0, none⟩)) #[.int .i64 0, .slice none 0 0] 26 s34 rfl kk rfl (fun _ => by kernel_rfl) (fun b35 w36 hb37 k38 x39 s40 => ?_)
 refine F.nx ?_
 have lo41 : w.heap.size ≤ b35 := Nat.le_trans ((SG.belowR c7 s34 (fun kq e => by cases e))).size (Nat.le_of_eq hb37)
 have sp42 : Sp A11 n12 (some b35) := sp_new rd15 (by have := hb37; omega)
 have sp43 : Sp A21 n22 (some b35) := sp_new rd25 (by have := hb37; omega)
 have rd44 := Rd.kept rd15 k38
 have rd45 := Rd.kept rd25 k38
 refine W.ss (v := .agg #[.int .i64 m10, .slice A11 n12 c13]) (j := 0) (news := [.int .i64 m10, .slice A11 n12 c13]) (cs' := #[.int .i64 m10, .slice A11 n12 c13]) s40 rfl kk rfl rfl kk kk x39 kk kk (by simp) kk kk (.inr (Nat.le_trans (s34).size (Nat.le_of_eq hb37))) (fun w46 g47 x48 s49 => ?_)
 have rd50 := rd_sepG rd44 g47 sp42
 have rd51 := rd_sepG rd45 g47 sp43
 refine Fa (.slice A21 n22 c23) ?_
 refine Fa (.int .i64 x31) ?_
 refine F.es ?_
 have c52 := (SG.belowR c7 s49 (fun kq e => by cases e))
 refine h5 _ _ ?_
 as_aux_lemma =>
  refine wk fun K6 h6 => ?_
  refine W.region_plain (row := none) [(0, false), (1, false), (2, false), (3, true), (4, false), (5, false), (6, false), (7, false), (8, false), (9, false), (10, false)] kk ?_
  have s53 := SG.self w46 none
  refine Fq (.agg #[.int .i64 m10, .slice A11 n12 c13]) (r_load2 rfl ek kk kk (sgS (blk_cell (j := 0) x48 kk) (Option.some_ne_none _)) (sgS (blk_cell (j := 1) x48 kk) (Option.some_ne_none _))) ?_
  refine Fv (.slice A21 n22 c23) ?_
  refine Fv (.int .i64 x31) ?_
  refine Fc [.agg #[.int .i64 m10, .slice A11 n12 c13], .slice A21 n22 c23, .int .i64 x31] (SegmentOfPipe_impl m10 A11 n12 c13 dl14 A21 n22 c23 dl24 x31 w46 (Rd.kept rd50 (SG.below s53)) (Rd.kept rd51 (SG.below s53)) (by omega) (by omega) fm16 fm26) ?_
  rintro e w70 ⟨A55, d56, A62, d63, rfl, r57, r64, nr54, b69⟩
  have s71 := SG.of_below s53 b69
  refine ⟨_, rfl, s71, ?_⟩
  refine F.nx ?_
  have rd58 := own_rd r57
  have hl60 : (SegmentOfPipe_v0 m10 dl14 dl24 x31).length = (SegmentOfPipe_v0 m10 dl14 dl24 x31).length := rfl
  have rd65 := own_rd r64
  have hl67 : (SegmentOfPipe_v1 m10 dl14 dl24 x31).length = (SegmentOfPipe_v1 m10 dl14 dl24 x31).length := rfl
  have hb72 := SegmentOfPipe_len m10 dl14 dl24 x31
  have hb73 := SegmentOfPipe_len1 m10 dl14 dl24 x31
  refine Fv (.tuple #[.slice A55 ((SegmentOfPipe_v0 m10 dl14 dl24 x31).length) d56, .slice A62 ((SegmentOfPipe_v1 m10 dl14 dl24 x31).length) d63, .bool (SegmentOfPipe_v2 m10 dl14 dl24 x31)]) ?_
  refine Fq (.slice A55 ((SegmentOfPipe_v0 m10 dl14 dl24 x31).length) d56) (r_extract (vs := #[.slice A55 ((SegmentOfPipe_v0 m10 dl14 dl24 x31).length) d56, .slice A62 ((SegmentOfPipe_v1 m10 dl14 dl24 x31).length) d63, .bool (SegmentOfPipe_v2 m10 dl14 dl24 x31)]) rfl ek kk) ?_
  refine Fq (.slice A62 ((SegmentOfPipe_v1 m10 dl14 dl24 x31).length) d63) (r_extract (vs := #[.slice A55 ((SegmentOfPipe_v0 m10 dl14 dl24 x31).length) d56, .slice A62 ((SegmentOfPipe_v1 m10 dl14 dl24 x31).length) d63, .bool (SegmentOfPipe_v2 m10 dl14 dl24 x31)]) rfl ek kk) ?_
  refine Fq (.bool (SegmentOfPipe_v2 m10 dl14 dl24 x31)) (r_extract (vs := #[.slice A55 ((SegmentOfPipe_v0 m10 dl14 dl24 x31).length) d56, .slice A62 ((SegmentOfPipe_v1 m10 dl14 dl24 x31).length) d63, .bool (SegmentOfPipe_v2 m10 dl14 dl24 x31)]) rfl ek kk) ?_
  refine Fa (.slice A55 ((SegmentOfPipe_v0 m10 dl14 dl24 x31).length) d56) ?_
  refine Fa (.slice A62 ((SegmentOfPipe_v1 m10 dl14 dl24 x31).length) d63) ?_
  refine Fa (.bool (SegmentOfPipe_v2 m10 dl14 dl24 x31)) ?_
  refine F.es ?_
  have x48 := SG.blk s71 x48 (Option.some_ne_none _)
  have c74 := (SG.belowR c52 s71 (fun kq e => by cases e))
  have rd75 := Rd.kept rd50 (SG.below s71)
  have rd76 := Rd.kept rd51 (SG.below s71)
  refine h6 _ _ ?_
  refine wk fun K7 h7 => ?_
  refine wk fun K8 h8 => ?_
  refine W.region_plain (row := none) [(0, false), (1, false), (2, false), (3, true), (4, false), (5, false), (6, false), (7, false), (8, false), (9, false), (10, false)] kk ?_
  have s77 := SG.self w70 none
  refine Fq (.agg #[.int .i64 m10, .slice A11 n12 c13]) (r_load2 rfl ek kk kk (sgS (blk_cell (j := 0) x48 kk) (Option.some_ne_none _)) (sgS (blk_cell (j := 1) x48 kk) (Option.some_ne_none _))) ?_
  refine Fv (.slice A21 n22 c23) ?_
  refine Fv (.int .i64 x31) ?_
  refine Fc [.agg #[.int .i64 m10, .slice A11 n12 c13], .slice A21 n22 c23, .int .i64 x31] (SegmentOfPipe_spec m10 A11 n12 c13 dl14 A21 n22 c23 dl24 x31 w70 (Rd.kept rd75 (SG.below s77)) (Rd.kept rd76 (SG.below s77)) (by omega) (by omega) fm16 fm26) ?_
  rintro e w93 ⟨A78, d79, A85, d86, rfl, r80, r87, b92⟩
  have s94 := SG.of_below s77 b92
  refine ⟨_, rfl, s94, ?_⟩
  refine F.nx ?_
  have hl83 : (SegmentOfPipe_v0 m10 dl14 dl24 x31).length = (SegmentOfPipe_v0 m10 dl14 dl24 x31).length := rfl
  have hl90 : (SegmentOfPipe_v1 m10 dl14 dl24 x31).length = (SegmentOfPipe_v1 m10 dl14 dl24 x31).length := rfl
  refine Fv (.tuple #[.slice A78 ((SegmentOfPipe_v0 m10 dl14 dl24 x31).length) d79, .slice A85 ((SegmentOfPipe_v1 m10 dl14 dl24 x31).length) d86, .bool (SegmentOfPipe_v2 m10 dl14 dl24 x31)]) ?_
  refine Fq (.slice A78 ((SegmentOfPipe_v0 m10 dl14 dl24 x31).length) d79) (r_extract (vs := #[.slice A78 ((SegmentOfPipe_v0 m10 dl14 dl24 x31).length) d79, .slice A85 ((SegmentOfPipe_v1 m10 dl14 dl24 x31).length) d86, .bool (SegmentOfPipe_v2 m10 dl14 dl24 x31)]) rfl ek kk) ?_
  refine Fq (.slice A85 ((SegmentOfPipe_v1 m10 dl14 dl24 x31).length) d86) (r_extract (vs := #[.slice A78 ((SegmentOfPipe_v0 m10 dl14 dl24 x31).length) d79, .slice A85 ((SegmentOfPipe_v1 m10 dl14 dl24 x31).length) d86, .bool (SegmentOfPipe_v2 m10 dl14 dl24 x31)]) rfl ek kk) ?_
  refine Fq (.bool (SegmentOfPipe_v2 m10 dl14 dl24 x31)) (r_extract (vs := #[.slice A78 ((SegmentOfPipe_v0 m10 dl14 dl24 x31).length) d79, .slice A85 ((SegmentOfPipe_v1 m10 dl14 dl24 x31).length) d86, .bool (SegmentOfPipe_v2 m10 dl14 dl24 x31)]) rfl ek kk) ?_
  refine Fa (.slice A78 ((SegmentOfPipe_v0 m10 dl14 dl24 x31).length) d79) ?_
  refine Fa (.slice A85 ((SegmentOfPipe_v1 m10 dl14 dl24 x31).length) d86) ?_
  refine Fa (.bool (SegmentOfPipe_v2 m10 dl14 dl24 x31)) ?_
  refine F.es ?_
  have x48 := SG.blk s94 x48 (Option.some_ne_none _)
  have c95 := (SG.belowR c74 s94 (fun kq e => by cases e))
  have rd96 := Rd.kept rd75 (SG.below s94)
  have rd97 := Rd.kept rd76 (SG.below s94)
  have rd98 := Rd.kept rd58 (SG.below s94)
  have rd99 := Rd.kept rd65 (SG.below s94)
  refine h8 _ _ ?_
  as_aux_lemma =>
   refine wk fun K9 h9 => ?_
   refine W.region_sch (row := none) (Sch.of [(0, false), (1, false), (2, false), (3, false), (4, false), (5, false), (6, true), (7, false), (8, false), (9, false), (10, false), (11, false), (12, true), (13, false), (14, false), (15, false), (16, false), (17, false), (19, false), (20, false), (18, true), (21, true), (22, false), (23, false)]) kk kk (fun _ d _ _ _ h => by cases d <;> exact h) kk (fun w100 e101 s102 => ?_)
   refine Fv (.bool (SegmentOfPipe_v2 m10 dl14 dl24 x31)) ?_
   refine Fv (.bool (SegmentOfPipe_v2 m10 dl14 dl24 x31)) ?_
   refine Fq (.bool false) (r_neqB (m := (SegmentOfPipe_v2 m10 dl14 dl24 x31)) (n := (SegmentOfPipe_v2 m10 dl14 dl24 x31)) rfl ek ek kk (by rw [show ((SegmentOfPipe_v2 m10 dl14 dl24 x31) == (SegmentOfPipe_v2 m10 dl14 dl24 x31)) = true from beq_iff_eq.2 rfl]; try rfl)) ?_
   refine Fv (.bool false) ?_
   refine Fv (.slice A55 ((SegmentOfPipe_v0 m10 dl14 dl24 x31).length) d56) ?_
   refine Fv (.slice A78 ((SegmentOfPipe_v0 m10 dl14 dl24 x31).length) d79) ?_
   refine Fc [.slice A55 ((SegmentOfPipe_v0 m10 dl14 dl24 x31).length) d56, .slice A78 ((SegmentOfPipe_v0 m10 dl14 dl24 x31).length) d79] (vInts_same A55 A78 ((SegmentOfPipe_v0 m10 dl14 dl24 x31).length) d56 d79 (SegmentOfPipe_v0 m10 dl14 dl24 x31) _ (Rd.kept rd98 (SG.below s102)) (Rd.kept r80 (SG.below s102)) (by omega)) ?_
   rintro e w104 ⟨rfl, b103⟩
   have s105 := SG.of_below s102 b103
   refine ⟨_, rfl, s105, ?_⟩
   refine F.nx ?_
   refine Fq (.bool false) (r_not (b := true) rfl ek rfl) ?_
   refine Fq (.bool false) (r_pick (b := false) rfl ek ek) ?_
   refine Fv (.bool false) ?_
   refine Fv (.slice A62 ((SegmentOfPipe_v1 m10 dl14 dl24 x31).length) d63) ?_
   refine Fv (.slice A85 ((SegmentOfPipe_v1 m10 dl14 dl24 x31).length) d86) ?_
   refine Fc [.slice A62 ((SegmentOfPipe_v1 m10 dl14 dl24 x31).length) d63, .slice A85 ((SegmentOfPipe_v1 m10 dl14 dl24 x31).length) d86] (vInts_same A62 A85 ((SegmentOfPipe_v1 m10 dl14 dl24 x31).length) d63 d86 (SegmentOfPipe_v1 m10 dl14 dl24 x31) _ (Rd.kept rd99 (SG.below s105)) (Rd.kept r87 (SG.below s105)) (by omega)) ?_
   rintro e w107 ⟨rfl, b106⟩
   have s108 := SG.of_below s105 b106
   refine ⟨_, rfl, s108, ?_⟩
   refine F.nx ?_
   refine Fq (.bool false) (r_not (b := true) rfl ek rfl) ?_
   refine Fq (.bool false) (r_pick (b := false) rfl ek ek) ?_
   refine Fv (.bool false) ?_
   refine Fq (.agg #[.int .i64 m10, .slice A11 n12 c13]) (r_load2 rfl ek kk kk (sgS (blk_cell (j := 0) x48 kk) (Option.some_ne_none _)) (sgS (blk_cell (j := 1) x48 kk) (Option.some_ne_none _))) ?_
   refine Fv (.slice A21 n22 c23) ?_
   refine Fq (.agg #[.int .i64 m10, .slice A11 n12 c13]) (r_load2 rfl ek kk kk (sgS (blk_cell (j := 0) x48 kk) (Option.some_ne_none _)) (sgS (blk_cell (j := 1) x48 kk) (Option.some_ne_none _))) ?_
   refine Fv (.slice A21 n22 c23) ?_
   refine Fc [.agg #[.int .i64 m10, .slice A11 n12 c13], .slice A21 n22 c23] (IsValidValves_impl m10 A11 n12 c13 dl14 A21 n22 c23 dl24  w107 (Rd.kept rd96 (SG.below s108)) (Rd.kept rd97 (SG.below s108)) (by omega) (by omega) fm16 fm26) ?_
   rintro e w110 ⟨rfl, b109⟩
   have s111 := SG.of_below s108 b109
   refine ⟨_, rfl, s111, ?_⟩
   refine F.nx ?_
   rcases Bool.eq_false_or_eq_true (IsValidValves_v0 m10 dl14 dl24) with q112 | q112
   ·rw [q112]
    refine Fc [.agg #[.int .i64 m10, .slice A11 n12 c13], .slice A21 n22 c23] (IsValidValves_spec m10 A11 n12 c13 dl14 A21 n22 c23 dl24  w110 (Rd.kept rd96 (SG.below s111)) (Rd.kept rd97 (SG.below s111)) (by omega) (by omega) fm16 fm26) ?_
    rintro e w114 ⟨rfl, b113⟩
    have s115 := SG.of_below s111 b113
    refine ⟨_, rfl, s115, ?_⟩
    refine F.nx ?_
    rw [q112]
    refine Fq (.bool false) (r_neqB (m := true) (n := true) rfl ek ek kk rfl) ?_
    refine Fq (.bool false) (r_pick (b := false) rfl ek ek) ?_
    refine F.es ?_
    have x48 := SG.blk s115 x48 (Option.some_ne_none _)
    have c117 := (SG.belowR c95 s115 (fun kq e => by cases e))
    have rd118 := Rd.kept rd96 (SG.below s115)
    have rd119 := Rd.kept rd97 (SG.below s115)
    have rd120 := Rd.kept rd98 (SG.below s115)
    have rd121 := Rd.kept rd99 (SG.below s115)
    refine h9 _ _ ?_
    refine wp_cond_false ek ?_
    refine wp_skip ?_
    refine h7 _ _ ?_
    refine wk fun K10 h10 => ?_
    refine wk fun K11 h11 => ?_
    refine W.region_quiet [(0, false)] kk ?_
    refine Fa (.int .i64 0) ?_
    refine F.es ?_
    refine h11 _ _ ?_
    as_aux_lemma =>
     refine wp_block ?_
     refine loopK (fun am0 aa0 wl0 => ∃ (i : Nat) , Kn aa0 [(0, .slice A n c), (2, .bool false), (3, .pointer (some ⟨b35, 0, none⟩)), (4, .slice A21 n22 c23), (5, .int .i64 x31), (6, .slice A55 ((SegmentOfPipe_v0 m10 dl14 dl24 x31).length) d56), (7, .slice A62 ((SegmentOfPipe_v1 m10 dl14 dl24 x31).length) d63), (8, .bool (SegmentOfPipe_v2 m10 dl14 dl24 x31)), (12, .int .i64 (i : Int))] 273 ∧ (am0 = (SegmentOfPipe_v0 m10 dl14 dl24 x31).length - i) ∧ (i ≤ (SegmentOfPipe_v0 m10 dl14 dl24 x31).length) ∧ (wl0.heap[b35]? = some (.cells #[.int .i64 m10, .slice A11 n12 c13] 26 (0, 0))) ∧ (Rd wl0 4 A21 n22 (valvesV dl24)) ∧ (Rd wl0 1 A55 ((SegmentOfPipe_v0 m10 dl14 dl24 x31).length) (intsV (SegmentOfPipe_v0 m10 dl14 dl24 x31))) ∧ (Rd wl0 1 A62 ((SegmentOfPipe_v1 m10 dl14 dl24 x31).length) (intsV (SegmentOfPipe_v1 m10 dl14 dl24 x31))) ∧ (Rd wl0 4 A11 n12 (pipesV dl14)) ∧ (Below w.heap.size w wl0)) ((SegmentOfPipe_v0 m10 dl14 dl24 x31).length - 0) ?_ ?_
     ·exact ⟨0, Kn.of, rfl, (Nat.zero_le _), x48, rd119, rd120, rd121, rd118, c117⟩
     rintro am0 aa0 wl0 K12 h12 ⟨i, ⟨U0, rfl⟩, rfl, hi, x48, kl0_0, kl0_1, kl0_2, kl0_3, c124⟩
     refine wk fun K13 h13 => ?_
     refine wk fun K14 h14 => ?_
     refine W.region_quiet [(0, false), (1, false), (2, false), (3, false)] kk ?_
     refine Fv (.int .i64 (i : Int)) ?_
     refine Fv (.slice A55 ((SegmentOfPipe_v0 m10 dl14 dl24 x31).length) d56) ?_
     refine Fq (.int .i64 (((SegmentOfPipe_v0 m10 dl14 dl24 x31).length : Nat) : Int)) (r_len (A := A55) (n := (SegmentOfPipe_v0 m10 dl14 dl24 x31).length) (c := d56) rfl ek kk) ?_
     by_cases q125 : ((i : Int) : Int) < ((((SegmentOfPipe_v0 m10 dl14 dl24 x31).length : Nat) : Int) : Int)
     ·refine Fq (.bool true) (r_lss (m := (i : Int)) (n := (((SegmentOfPipe_v0 m10 dl14 dl24 x31).length : Nat) : Int)) rfl ek ek (decide_eq_true q125)) ?_
      refine F.es ?_
      refine h14 _ _ ?_
      refine wp_cond_true ek ?_
      refine wp_skip ?_
      refine h13 _ _ ?_
      refine wk fun K15 h15 => ?_
      refine wp_block ?_
      refine wk fun K16 h16 => ?_
      refine W.region_sch (row := none) (Sch.of [(0, false), (1, false), (2, false), (3, false), (4, false), (5, false), (6, true), (7, false), (8, false), (9, false), (10, false), (11, false), (12, false), (13, false)]) kk kk (fun _ d _ _ _ h => by cases d <;> exact h) kk (fun w126 e127 s128 => ?_)
      refine Fq (.agg #[.int .i64 m10, .slice A11 n12 c13]) (r_load2 rfl ek kk kk (sgS (blk_cell (j := 0) x48 kk) (Option.some_ne_none _)) (sgS (blk_cell (j := 1) x48 kk) (Option.some_ne_none _))) ?_
      refine Fv (.slice A21 n22 c23) ?_
      refine Fv (.slice A55 ((SegmentOfPipe_v0 m10 dl14 dl24 x31).length) d56) ?_
      refine Fv (.int .i64 (i : Int)) ?_
      obtain ⟨x129, hx130⟩ := get_of (zs := (SegmentOfPipe_v0 m10 dl14 dl24 x31)) (k := i) (by have := hl60; omega)
      obtain ⟨b131, o132, hA133, hb134, hc135⟩ := Rd.elInt kl0_1 hx130
      refine Fq (.pointer (some ⟨b131, o132 + i, none⟩)) (r_idx1 (n := (SegmentOfPipe_v0 m10 dl14 dl24 x31).length) (c := d56) (k := i) rfl ek hA133 kk kk (by have := hl60; omega)) ?_
      refine Fl (.int .i64 x129) (sgS hc135 (by simp)) ?_
      have hsi := seg_in hx130
      have hc137 := SegmentOfNode_impl m10 A11 n12 c13 dl14 A21 n22 c23 dl24 x129 w126 (Rd.kept kl0_3 (SG.below s128)) (Rd.kept kl0_0 (SG.below s128)) (by omega) (by omega) fm16 fm26
      rw [hsi.2.1, hsi.2.2, hsi.1] at hc137
      refine Fc [.agg #[.int .i64 m10, .slice A11 n12 c13], .slice A21 n22 c23, .int .i64 x129] (hc137) ?_
      rintro e w153 ⟨A138, d139, A145, d146, rfl, r140, r147, nr136, b152⟩
      have s154 := SG.of_below s128 b152
      refine ⟨_, rfl, s154, ?_⟩
      refine F.nx ?_
      have rd141 := own_rd r140
      have hl143 : (SegmentOfPipe_v0 m10 dl14 dl24 x31).length = (SegmentOfPipe_v0 m10 dl14 dl24 x31).length := rfl
      have rd148 := own_rd r147
      have hl150 : (SegmentOfPipe_v1 m10 dl14 dl24 x31).length = (SegmentOfPipe_v1 m10 dl14 dl24 x31).length := rfl
      refine Fv (.tuple #[.slice A138 ((SegmentOfPipe_v0 m10 dl14 dl24 x31).length) d139, .slice A145 ((SegmentOfPipe_v1 m10 dl14 dl24 x31).length) d146, .bool true]) ?_
      refine Fq (.slice A138 ((SegmentOfPipe_v0 m10 dl14 dl24 x31).length) d139) (r_extract (vs := #[.slice A138 ((SegmentOfPipe_v0 m10 dl14 dl24 x31).length) d139, .slice A145 ((SegmentOfPipe_v1 m10 dl14 dl24 x31).length) d146, .bool true]) rfl ek kk) ?_
      refine Fq (.slice A145 ((SegmentOfPipe_v1 m10 dl14 dl24 x31).length) d146) (r_extract (vs := #[.slice A138 ((SegmentOfPipe_v0 m10 dl14 dl24 x31).length) d139, .slice A145 ((SegmentOfPipe_v1 m10 dl14 dl24 x31).length) d146, .bool true]) rfl ek kk) ?_
      refine Fq (.bool true) (r_extract (vs := #[.slice A138 ((SegmentOfPipe_v0 m10 dl14 dl24 x31).length) d139, .slice A145 ((SegmentOfPipe_v1 m10 dl14 dl24 x31).length) d146, .bool true]) rfl ek kk) ?_
      refine Fa (.slice A138 ((SegmentOfPipe_v0 m10 dl14 dl24 x31).length) d139) ?_
      refine Fa (.slice A145 ((SegmentOfPipe_v1 m10 dl14 dl24 x31).length) d146) ?_
      refine Fa (.bool true) ?_
      refine F.es ?_
      have x48 := SG.blk s154 x48 (Option.some_ne_none _)
      have c155 := (SG.belowR c124 s154 (fun kq e => by cases e))
      have rd156 := Rd.kept kl0_3 (SG.below s154)
      have rd157 := Rd.kept kl0_0 (SG.below s154)
      have rd158 := Rd.kept kl0_1 (SG.below s154)
      have rd159 := Rd.kept kl0_2 (SG.below s154)
      refine h16 _ _ ?_
      refine wk fun K17 h17 => ?_
      refine W.region_plain (row := none) [(0, false), (1, false), (2, false), (3, false), (4, false), (5, true), (6, false), (7, false), (8, false), (9, false), (10, false), (11, true), (12, false), (13, false)] kk ?_
      have s160 := SG.self w153 none
      refine Fv (.bool true) ?_
      refine Fq (.bool false) (r_not (b := true) rfl ek rfl) ?_
      refine Fv (.bool false) ?_
      refine Fv (.slice A138 ((SegmentOfPipe_v0 m10 dl14 dl24 x31).length) d139) ?_
      refine Fv (.slice A55 ((SegmentOfPipe_v0 m10 dl14 dl24 x31).length) d56) ?_
      refine Fc [.slice A138 ((SegmentOfPipe_v0 m10 dl14 dl24 x31).length) d139, .slice A55 ((SegmentOfPipe_v0 m10 dl14 dl24 x31).length) d56] (vInts_same A138 A55 ((SegmentOfPipe_v0 m10 dl14 dl24 x31).length) d139 d56 (SegmentOfPipe_v0 m10 dl14 dl24 x31) _ (Rd.kept rd141 (SG.below s160)) (Rd.kept rd158 (SG.below s160)) (by omega)) ?_
      rintro e w162 ⟨rfl, b161⟩
      have s163 := SG.of_below s160 b161
      refine ⟨_, rfl, s163, ?_⟩
      refine F.nx ?_
      refine Fq (.bool false) (r_not (b := true) rfl ek rfl) ?_
      refine Fq (.bool false) (r_pick (b := false) rfl ek ek) ?_
      refine Fv (.bool false) ?_
      refine Fv (.slice A145 ((SegmentOfPipe_v1 m10 dl14 dl24 x31).length) d146) ?_
      refine Fv (.slice A62 ((SegmentOfPipe_v1 m10 dl14 dl24 x31).length) d63) ?_
      refine Fc [.slice A145 ((SegmentOfPipe_v1 m10 dl14 dl24 x31).length) d146, .slice A62 ((SegmentOfPipe_v1 m10 dl14 dl24 x31).length) d63] (vInts_same A145 A62 ((SegmentOfPipe_v1 m10 dl14 dl24 x31).length) d146 d63 (SegmentOfPipe_v1 m10 dl14 dl24 x31) _ (Rd.kept rd148 (SG.below s163)) (Rd.kept rd159 (SG.below s163)) (by omega)) ?_
      rintro e w165 ⟨rfl, b164⟩
      have s166 := SG.of_below s163 b164
      refine ⟨_, rfl, s166, ?_⟩
      refine F.nx ?_
      refine Fq (.bool false) (r_not (b := true) rfl ek rfl) ?_
      refine Fq (.bool false) (r_pick (b := false) rfl ek ek) ?_
      refine F.es ?_
      have x48 := SG.blk s166 x48 (Option.some_ne_none _)
      have c167 := (SG.belowR c155 s166 (fun kq e => by cases e))
      have rd168 := Rd.kept rd156 (SG.below s166)
      have rd169 := Rd.kept rd157 (SG.below s166)
      have rd170 := Rd.kept rd158 (SG.below s166)
      have rd171 := Rd.kept rd159 (SG.below s166)
      refine h17 _ _ ?_
      as_aux_lemma =>
       refine wp_cond_false ek ?_
       refine wp_skip ?_
       refine h15 _ _ ?_
       refine W.region_quiet [(0, false), (1, false), (2, false)] kk ?_
       refine Fv (.int .i64 (i : Int)) ?_
       refine Fq (.int .i64 ((i + 1 : Nat) : Int)) (r_add (m := (i : Int)) (n := 1) (z := ((i + 1 : Nat) : Int)) rfl ek ek (by omega) (by omega)) ?_
       refine Fa (.int .i64 ((i + 1 : Nat) : Int)) ?_
       refine F.es ?_
       exact h12 _ _ _ (by omega : ((SegmentOfPipe_v0 m10 dl14 dl24 x31).length - (i + 1)) < _) ⟨i + 1, Kn.of, rfl, (by omega), x48, rd169, rd170, rd171, rd168, c167⟩
     refine Fq (.bool false) (r_lss (m := (i : Int)) (n := (((SegmentOfPipe_v0 m10 dl14 dl24 x31).length : Nat) : Int)) rfl ek ek (decide_eq_false q125)) ?_
     refine F.es ?_
     refine h14 _ _ ?_
     refine wp_cond_false ek ?_
     refine wp_exit ?_
     refine h10 _ _ ?_
     refine joinK (fun amj1 aaj1 wlj1 => Kn aaj1 [(0, .slice A n c), (2, .bool false)] 273 ∧ (amj1 = 0) ∧ (Below w.heap.size w wlj1)) ?_ ?_
     ·rintro amj1 aaj1 wlj1 ⟨⟨Uj1, rfl⟩, rfl, c174⟩
      refine wk fun K18 h18 => ?_
      refine W.region_plain (row := none) [(0, false), (1, true), (2, false), (3, false), (4, false), (5, false), (6, true), (7, true), (8, false), (9, false)] kk ?_
      have s175 := SG.self wlj1 none
      refine Fv (.slice A n c) ?_
      have z176 := ((SG.belowR c174 s175 (fun kq e => by cases e))).size
      refine Fc [.slice A n c] (DrawSegmentOfNode_any A n c zs _ (Rd.kept hcode (SG.belowR c174 s175 (fun kq e => by cases e))) hz (by have h9 := of_decide_eq_false q5; omega)) ?_
      rintro e w200 ⟨m177, A178, n179, c180, dl181, A188, n189, c190, dl191, x198, rfl, ⟨⟨rd182, fm183, fr187⟩, hsm184⟩, ⟨⟨rd192, fm193, fr197⟩, hsm194⟩, b199⟩
      have s201 := SG.of_below s175 b199
      refine ⟨_, rfl, s201, ?_⟩
      refine F.nx ?_
      have hl185 := rd_pipes_len rd182
      have hsm184m := hsm184.1
      have hsm184n := hsm184.2.1
      have hl195 := rd_valves_len rd192
      refine Fv (.tuple #[.agg #[.int .i64 m177, .slice A178 n179 c180], .slice A188 n189 c190, .int .i64 x198]) ?_
      refine Fq (.agg #[.int .i64 m177, .slice A178 n179 c180]) (r_extract (vs := #[.agg #[.int .i64 m177, .slice A178 n179 c180], .slice A188 n189 c190, .int .i64 x198]) rfl ek kk) ?_
      refine Fq (.slice A188 n189 c190) (r_extract (vs := #[.agg #[.int .i64 m177, .slice A178 n179 c180], .slice A188 n189 c190, .int .i64 x198]) rfl ek kk) ?_
      refine Fq (.int .i64 x198) (r_extract (vs := #[.agg #[.int .i64 m177, .slice A178 n179 c180], .slice A188 n189 c190, .int .i64 x198]) rfl ek kk) ?_
      refine W.sn (fun b => .pointer (some ⟨b, 0, none⟩)) #[.int .i64 0, .slice none 0 0] 26 s201 rfl kk rfl (fun _ => by kernel_rfl) (fun b202 w203 hb204 k205 x206 s207 => ?_)
      refine F.nx ?_
      have lo208 : w.heap.size ≤ b202 := Nat.le_trans ((SG.belowR c174 s201 (fun kq e => by cases e))).size (Nat.le_of_eq hb204)
      have sp209 : Sp A178 n179 (some b202) := sp_new rd182 (by have := hb204; omega)
      have sp210 : Sp A188 n189 (some b202) := sp_new rd192 (by have := hb204; omega)
      have rd211 := Rd.kept rd182 k205
      have rd212 := Rd.kept rd192 k205
      refine W.ss (v := .agg #[.int .i64 m177, .slice A178 n179 c180]) (j := 0) (news := [.int .i64 m177, .slice A178 n179 c180]) (cs' := #[.int .i64 m177, .slice A178 n179 c180]) s207 rfl kk rfl rfl kk kk x206 kk kk (by simp) kk kk (.inr (Nat.le_trans (s201).size (Nat.le_of_eq hb204))) (fun w213 g214 x215 s216 => ?_)
      have rd217 := rd_sepG rd211 g214 sp209
      have rd218 := rd_sepG rd212 g214 sp210
      refine Fa (.slice A188 n189 c190) ?_
      refine Fa (.int .i64 x198) ?_
      refine F.es ?_
      have c219 := (SG.belowR c174 s216 (fun kq e => by cases e))
      refine h18 _ _ ?_
      refine wk fun K19 h19 => ?_
      refine W.region_plain (row := none) [(0, false), (1, false), (2, false), (3, true), (4, false), (5, false), (6, false), (7, false), (8, false), (9, false), (10, false)] kk ?_
      have s220 := SG.self w213 none
      refine Fq (.agg #[.int .i64 m177, .slice A178 n179 c180]) (r_load2 rfl ek kk kk (sgS (blk_cell (j := 0) x215 kk) (Option.some_ne_none _)) (sgS (blk_cell (j := 1) x215 kk) (Option.some_ne_none _))) ?_
      refine Fv (.slice A188 n189 c190) ?_
      refine Fv (.int .i64 x198) ?_
      refine Fc [.agg #[.int .i64 m177, .slice A178 n179 c180], .slice A188 n189 c190, .int .i64 x198] (SegmentOfNode_impl m177 A178 n179 c180 dl181 A188 n189 c190 dl191 x198 w213 (Rd.kept rd217 (SG.below s220)) (Rd.kept rd218 (SG.below s220)) (by omega) (by omega) fm183 fm193) ?_
      rintro e w237 ⟨A222, d223, A229, d230, rfl, r224, r231, nr221, b236⟩
      have s238 := SG.of_below s220 b236
      refine ⟨_, rfl, s238, ?_⟩
      refine F.nx ?_
      have rd225 := own_rd r224
      have hl227 : (SegmentOfNode_v0 m177 dl181 dl191 x198).length = (SegmentOfNode_v0 m177 dl181 dl191 x198).length := rfl
      have rd232 := own_rd r231
      have hl234 : (SegmentOfNode_v1 m177 dl181 dl191 x198).length = (SegmentOfNode_v1 m177 dl181 dl191 x198).length := rfl
      have hb239 := SegmentOfNode_len m177 dl181 dl191 x198
      have hb240 := SegmentOfNode_len1 m177 dl181 dl191 x198
      refine Fv (.tuple #[.slice A222 ((SegmentOfNode_v0 m177 dl181 dl191 x198).length) d223, .slice A229 ((SegmentOfNode_v1 m177 dl181 dl191 x198).length) d230, .bool (SegmentOfNode_v2 m177 dl181 dl191 x198)]) ?_
      refine Fq (.slice A222 ((SegmentOfNode_v0 m177 dl181 dl191 x198).length) d223) (r_extract (vs := #[.slice A222 ((SegmentOfNode_v0 m177 dl181 dl191 x198).length) d223, .slice A229 ((SegmentOfNode_v1 m177 dl181 dl191 x198).length) d230, .bool (SegmentOfNode_v2 m177 dl181 dl191 x198)]) rfl ek kk) ?_
      refine Fq (.slice A229 ((SegmentOfNode_v1 m177 dl181 dl191 x198).length) d230) (r_extract (vs := #[.slice A222 ((SegmentOfNode_v0 m177 dl181 dl191 x198).length) d223, .slice A229 ((SegmentOfNode_v1 m177 dl181 dl191 x198).length) d230, .bool (SegmentOfNode_v2 m177 dl181 dl191 x198)]) rfl ek kk) ?_
      refine Fq (.bool (SegmentOfNode_v2 m177 dl181 dl191 x198)) (r_extract (vs := #[.slice A222 ((SegmentOfNode_v0 m177 dl181 dl191 x198).length) d223, .slice A229 ((SegmentOfNode_v1 m177 dl181 dl191 x198).length) d230, .bool (SegmentOfNode_v2 m177 dl181 dl191 x198)]) rfl ek kk) ?_
      refine Fa (.slice A222 ((SegmentOfNode_v0 m177 dl181 dl191 x198).length) d223) ?_
      refine Fa (.slice A229 ((SegmentOfNode_v1 m177 dl181 dl191 x198).length) d230) ?_
      refine Fa (.bool (SegmentOfNode_v2 m177 dl181 dl191 x198)) ?_
      refine F.es ?_
      have x215 := SG.blk s238 x215 (Option.some_ne_none _)
      have c241 := (SG.belowR c219 s238 (fun kq e => by cases e))
      have rd242 := Rd.kept rd217 (SG.below s238)
      have rd243 := Rd.kept rd218 (SG.below s238)
      refine h19 _ _ ?_
      as_aux_lemma =>
       refine wk fun K20 h20 => ?_
       refine W.region_plain (row := none) [(0, false), (1, false), (2, false), (3, true), (4, false), (5, false), (6, false), (7, false), (8, false), (9, false), (10, false)] kk ?_
       have s244 := SG.self w237 none
       refine Fq (.agg #[.int .i64 m177, .slice A178 n179 c180]) (r_load2 rfl ek kk kk (sgS (blk_cell (j := 0) x215 kk) (Option.some_ne_none _)) (sgS (blk_cell (j := 1) x215 kk) (Option.some_ne_none _))) ?_
       refine Fv (.slice A188 n189 c190) ?_
       refine Fv (.int .i64 x198) ?_
       refine Fc [.agg #[.int .i64 m177, .slice A178 n179 c180], .slice A188 n189 c190, .int .i64 x198] (SegmentOfNode_spec m177 A178 n179 c180 dl181 A188 n189 c190 dl191 x198 w237 (Rd.kept rd242 (SG.below s244)) (Rd.kept rd243 (SG.below s244)) (by omega) (by omega) fm183 fm193) ?_
       rintro e w260 ⟨A245, d246, A252, d253, rfl, r247, r254, b259⟩
       have s261 := SG.of_below s244 b259
       refine ⟨_, rfl, s261, ?_⟩
       refine F.nx ?_
       have hl250 : (SegmentOfNode_v0 m177 dl181 dl191 x198).length = (SegmentOfNode_v0 m177 dl181 dl191 x198).length := rfl
       have hl257 : (SegmentOfNode_v1 m177 dl181 dl191 x198).length = (SegmentOfNode_v1 m177 dl181 dl191 x198).length := rfl
       refine Fv (.tuple #[.slice A245 ((SegmentOfNode_v0 m177 dl181 dl191 x198).length) d246, .slice A252 ((SegmentOfNode_v1 m177 dl181 dl191 x198).length) d253, .bool (SegmentOfNode_v2 m177 dl181 dl191 x198)]) ?_
       refine Fq (.slice A245 ((SegmentOfNode_v0 m177 dl181 dl191 x198).length) d246) (r_extract (vs := #[.slice A245 ((SegmentOfNode_v0 m177 dl181 dl191 x198).length) d246, .slice A252 ((SegmentOfNode_v1 m177 dl181 dl191 x198).length) d253, .bool (SegmentOfNode_v2 m177 dl181 dl191 x198)]) rfl ek kk) ?_
       refine Fq (.slice A252 ((SegmentOfNode_v1 m177 dl181 dl191 x198).length) d253) (r_extract (vs := #[.slice A245 ((SegmentOfNode_v0 m177 dl181 dl191 x198).length) d246, .slice A252 ((SegmentOfNode_v1 m177 dl181 dl191 x198).length) d253, .bool (SegmentOfNode_v2 m177 dl181 dl191 x198)]) rfl ek kk) ?_
       refine Fq (.bool (SegmentOfNode_v2 m177 dl181 dl191 x198)) (r_extract (vs := #[.slice A245 ((SegmentOfNode_v0 m177 dl181 dl191 x198).length) d246, .slice A252 ((SegmentOfNode_v1 m177 dl181 dl191 x198).length) d253, .bool (SegmentOfNode_v2 m177 dl181 dl191 x198)]) rfl ek kk) ?_
       refine Fa (.slice A245 ((SegmentOfNode_v0 m177 dl181 dl191 x198).length) d246) ?_
       refine Fa (.slice A252 ((SegmentOfNode_v1 m177 dl181 dl191 x198).length) d253) ?_
       refine Fa (.bool (SegmentOfNode_v2 m177 dl181 dl191 x198)) ?_
       refine F.es ?_
       have c262 := (SG.belowR c241 s261 (fun kq e => by cases e))
       have rd265 := Rd.kept rd225 (SG.below s261)
       have rd266 := Rd.kept rd232 (SG.below s261)
       refine h20 _ _ ?_
       refine wk fun K21 h21 => ?_
       refine W.region_plain (row := none) [(0, false), (1, false), (2, false), (3, false), (4, false), (5, false), (6, true), (7, false), (8, false), (9, false), (10, false), (11, true), (12, false), (13, false), (14, false), (15, false), (16, false), (17, false), (18, false), (19, true), (20, false), (21, false), (22, false)] kk ?_
       have s267 := SG.self w260 none
       refine Fv (.bool (SegmentOfNode_v2 m177 dl181 dl191 x198)) ?_
       refine Fv (.bool (SegmentOfNode_v2 m177 dl181 dl191 x198)) ?_
       refine Fq (.bool true) (r_eqlB (m := (SegmentOfNode_v2 m177 dl181 dl191 x198)) (n := (SegmentOfNode_v2 m177 dl181 dl191 x198)) rfl ek ek kk (beq_iff_eq.2 rfl)) ?_
       refine Fv (.bool true) ?_
       refine Fv (.slice A222 ((SegmentOfNode_v0 m177 dl181 dl191 x198).length) d223) ?_
       refine Fv (.slice A245 ((SegmentOfNode_v0 m177 dl181 dl191 x198).length) d246) ?_
       refine Fc [.slice A222 ((SegmentOfNode_v0 m177 dl181 dl191 x198).length) d223, .slice A245 ((SegmentOfNode_v0 m177 dl181 dl191 x198).length) d246] (vInts_same A222 A245 ((SegmentOfNode_v0 m177 dl181 dl191 x198).length) d223 d246 (SegmentOfNode_v0 m177 dl181 dl191 x198) _ (Rd.kept rd265 (SG.below s267)) (Rd.kept r247 (SG.below s267)) (by omega)) ?_
       rintro e w269 ⟨rfl, b268⟩
       have s270 := SG.of_below s267 b268
       refine ⟨_, rfl, s270, ?_⟩
       refine F.nx ?_
       refine Fq (.bool true) (r_pick (b := true) rfl ek ek) ?_
       refine Fv (.bool true) ?_
       refine Fv (.slice A229 ((SegmentOfNode_v1 m177 dl181 dl191 x198).length) d230) ?_
       refine Fv (.slice A252 ((SegmentOfNode_v1 m177 dl181 dl191 x198).length) d253) ?_
       refine Fc [.slice A229 ((SegmentOfNode_v1 m177 dl181 dl191 x198).length) d230, .slice A252 ((SegmentOfNode_v1 m177 dl181 dl191 x198).length) d253] (vInts_same A229 A252 ((SegmentOfNode_v1 m177 dl181 dl191 x198).length) d230 d253 (SegmentOfNode_v1 m177 dl181 dl191 x198) _ (Rd.kept rd266 (SG.below s270)) (Rd.kept r254 (SG.below s270)) (by omega)) ?_
       rintro e w272 ⟨rfl, b271⟩
       have s273 := SG.of_below s270 b271
       refine ⟨_, rfl, s273, ?_⟩
       refine F.nx ?_
       refine Fq (.bool true) (r_pick (b := true) rfl ek ek) ?_
       refine Fv (.bool true) ?_
       refine Fv (.bool (SegmentOfNode_v2 m177 dl181 dl191 x198)) ?_
       rcases Bool.eq_false_or_eq_true (SegmentOfNode_v2 m177 dl181 dl191 x198) with q274 | q274
       ·rw [q274]
        refine Fq (.bool false) (r_not (b := true) rfl ek rfl) ?_
        refine Fv (.bool false) ?_
        refine Fv (.slice A222 ((SegmentOfNode_v0 m177 dl181 dl191 x198).length) d223) ?_
        refine Fv (.int .i64 x198) ?_
        refine Fc [.slice A222 ((SegmentOfNode_v0 m177 dl181 dl191 x198).length) d223, .int .i64 x198] (vHas_any A222 ((SegmentOfNode_v0 m177 dl181 dl191 x198).length) d223 (SegmentOfNode_v0 m177 dl181 dl191 x198) x198 _ (Rd.kept rd265 (SG.below s273)) (by omega)) ?_
        rintro e w276 ⟨rfl, b275⟩
        have s277 := SG.of_below s273 b275
        refine ⟨_, rfl, s277, ?_⟩
        refine F.nx ?_
        have q278 : ((SegmentOfNode_v0 m177 dl181 dl191 x198).contains x198) = true := seg_has q274
        rw [q278]
        refine Fq (.bool true) (r_pick (b := false) rfl ek ek) ?_
        refine Fq (.bool true) (r_pick (b := true) rfl ek ek) ?_
        refine Fa (.bool true) ?_
        refine F.es ?_
        have c279 := (SG.belowR c262 s277 (fun kq e => by cases e))
        refine h21 _ _ ?_
        as_aux_lemma =>
         refine wp_ret ?_
         try simp only [Exit.then]
         refine ret1 (v := .bool true) rfl kk ?_
         exact ⟨rfl, c279⟩
       rw [q274]
       refine Fq (.bool true) (r_not (b := false) rfl ek rfl) ?_
       refine Fv (.bool true) ?_
       refine Fs s273 ?_
       refine Fs s273 ?_
       refine Fs s273 ?_
       refine Fq (.bool true) (r_pick (b := true) rfl ek ek) ?_
       refine Fq (.bool true) (r_pick (b := true) rfl ek ek) ?_
       refine Fa (.bool true) ?_
       refine F.es ?_
       have c286 := (SG.belowR c262 s273 (fun kq e => by cases e))
       refine h21 _ _ ?_
       refine wp_ret ?_
       try simp only [Exit.then]
       refine ret1 (v := .bool true) rfl kk ?_
       exact ⟨rfl, c286⟩
     intro K22 h22
     refine wk fun K23 h23 => ?_
     refine W.region_quiet [(0, false)] kk ?_
     refine Fv (.bool (SegmentOfPipe_v2 m10 dl14 dl24 x31)) ?_
     refine F.es ?_
     refine h23 _ _ ?_
     rcases Bool.eq_false_or_eq_true (SegmentOfPipe_v2 m10 dl14 dl24 x31) with q293 | q293
     ·rw [q293]
      refine wp_cond_true ek ?_
      refine wk fun K24 h24 => ?_
      refine W.region_plain (row := none) [(0, false), (1, false), (2, false), (3, true), (4, false), (5, false), (6, false), (7, false), (8, false)] kk ?_
      have s294 := SG.self wl0 none
      refine Fq (.agg #[.int .i64 m10, .slice A11 n12 c13]) (r_load2 rfl ek kk kk (sgS (blk_cell (j := 0) x48 kk) (Option.some_ne_none _)) (sgS (blk_cell (j := 1) x48 kk) (Option.some_ne_none _))) ?_
      refine Fv (.slice A21 n22 c23) ?_
      refine Fv (.int .i64 x31) ?_
      refine Fc [.agg #[.int .i64 m10, .slice A11 n12 c13], .slice A21 n22 c23, .int .i64 x31] (ValvesAround_impl m10 A11 n12 c13 dl14 A21 n22 c23 dl24 x31 wl0 (Rd.kept kl0_3 (SG.below s294)) (Rd.kept kl0_0 (SG.below s294)) (by omega) (by omega) fm16 fm26) ?_
      rintro e w303 ⟨A295, d296, rfl, r297, b302⟩
      have s304 := SG.of_below s294 b302
      refine ⟨_, rfl, s304, ?_⟩
      refine F.nx ?_
      have rd298 := own_rd r297
      have hl300 : (ValvesAround_v0 m10 dl14 dl24 x31).length = (ValvesAround_v0 m10 dl14 dl24 x31).length := rfl
      have hb305 := ValvesAround_len m10 dl14 dl24 x31
      refine Fv (.tuple #[.slice A295 ((ValvesAround_v0 m10 dl14 dl24 x31).length) d296, .bool (ValvesAround_v1 m10 dl14 dl24 x31)]) ?_
      refine Fq (.slice A295 ((ValvesAround_v0 m10 dl14 dl24 x31).length) d296) (r_extract (vs := #[.slice A295 ((ValvesAround_v0 m10 dl14 dl24 x31).length) d296, .bool (ValvesAround_v1 m10 dl14 dl24 x31)]) rfl ek kk) ?_
      refine Fq (.bool (ValvesAround_v1 m10 dl14 dl24 x31)) (r_extract (vs := #[.slice A295 ((ValvesAround_v0 m10 dl14 dl24 x31).length) d296, .bool (ValvesAround_v1 m10 dl14 dl24 x31)]) rfl ek kk) ?_
      refine Fa (.slice A295 ((ValvesAround_v0 m10 dl14 dl24 x31).length) d296) ?_
      refine Fa (.bool (ValvesAround_v1 m10 dl14 dl24 x31)) ?_
      refine F.es ?_
      have x48 := SG.blk s304 x48 (Option.some_ne_none _)
      have c306 := (SG.belowR c124 s304 (fun kq e => by cases e))
      have rd307 := Rd.kept kl0_3 (SG.below s304)
      have rd308 := Rd.kept kl0_0 (SG.below s304)
      have rd309 := Rd.kept kl0_1 (SG.below s304)
      refine h24 _ _ ?_
      as_aux_lemma =>
       refine wk fun K25 h25 => ?_
       refine wk fun K26 h26 => ?_
       refine W.region_plain (row := none) [(0, false), (1, false), (2, false), (3, true), (4, false), (5, false), (6, false), (7, false), (8, false)] kk ?_
       have s311 := SG.self w303 none
       refine Fq (.agg #[.int .i64 m10, .slice A11 n12 c13]) (r_load2 rfl ek kk kk (sgS (blk_cell (j := 0) x48 kk) (Option.some_ne_none _)) (sgS (blk_cell (j := 1) x48 kk) (Option.some_ne_none _))) ?_
       refine Fv (.slice A21 n22 c23) ?_
       refine Fv (.int .i64 x31) ?_
       refine Fc [.agg #[.int .i64 m10, .slice A11 n12 c13], .slice A21 n22 c23, .int .i64 x31] (ValvesAround_spec m10 A11 n12 c13 dl14 A21 n22 c23 dl24 x31 w303 (Rd.kept rd307 (SG.below s311)) (Rd.kept rd308 (SG.below s311)) (by omega) (by omega) fm16 fm26) ?_
       rintro e w320 ⟨A312, d313, rfl, r314, b319⟩
       have s321 := SG.of_below s311 b319
       refine ⟨_, rfl, s321, ?_⟩
       refine F.nx ?_
       have hl317 : (ValvesAround_v0 m10 dl14 dl24 x31).length = (ValvesAround_v0 m10 dl14 dl24 x31).length := rfl
       refine Fv (.tuple #[.slice A312 ((ValvesAround_v0 m10 dl14 dl24 x31).length) d313, .bool (ValvesAround_v1 m10 dl14 dl24 x31)]) ?_
       refine Fq (.slice A312 ((ValvesAround_v0 m10 dl14 dl24 x31).length) d313) (r_extract (vs := #[.slice A312 ((ValvesAround_v0 m10 dl14 dl24 x31).length) d313, .bool (ValvesAround_v1 m10 dl14 dl24 x31)]) rfl ek kk) ?_
       refine Fq (.bool (ValvesAround_v1 m10 dl14 dl24 x31)) (r_extract (vs := #[.slice A312 ((ValvesAround_v0 m10 dl14 dl24 x31).length) d313, .bool (ValvesAround_v1 m10 dl14 dl24 x31)]) rfl ek kk) ?_
       refine Fa (.slice A312 ((ValvesAround_v0 m10 dl14 dl24 x31).length) d313) ?_
       refine Fa (.bool (ValvesAround_v1 m10 dl14 dl24 x31)) ?_
       refine F.es ?_
       have x48 := SG.blk s321 x48 (Option.some_ne_none _)
       have c322 := (SG.belowR c306 s321 (fun kq e => by cases e))
       have rd323 := Rd.kept rd307 (SG.below s321)
       have rd324 := Rd.kept rd308 (SG.below s321)
       have rd325 := Rd.kept rd309 (SG.below s321)
       have rd327 := Rd.kept rd298 (SG.below s321)
       refine h26 _ _ ?_
       refine wk fun K27 h27 => ?_
       refine W.region_plain (row := none) [(0, false), (1, false), (2, false), (3, false), (4, false), (5, true), (6, false), (7, false)] kk ?_
       have s328 := SG.self w320 none
       refine Fv (.bool (ValvesAround_v1 m10 dl14 dl24 x31)) ?_
       have q329 : (ValvesAround_v1 m10 dl14 dl24 x31) = true := q293
       rw [q329]
       refine Fq (.bool false) (r_not (b := true) rfl ek rfl) ?_
       refine Fv (.bool false) ?_
       refine Fv (.slice A295 ((ValvesAround_v0 m10 dl14 dl24 x31).length) d296) ?_
       refine Fv (.slice A312 ((ValvesAround_v0 m10 dl14 dl24 x31).length) d313) ?_
       refine Fc [.slice A295 ((ValvesAround_v0 m10 dl14 dl24 x31).length) d296, .slice A312 ((ValvesAround_v0 m10 dl14 dl24 x31).length) d313] (vInts_same A295 A312 ((ValvesAround_v0 m10 dl14 dl24 x31).length) d296 d313 (ValvesAround_v0 m10 dl14 dl24 x31) _ (Rd.kept rd327 (SG.below s328)) (Rd.kept r314 (SG.below s328)) (by omega)) ?_
       rintro e w331 ⟨rfl, b330⟩
       have s332 := SG.of_below s328 b330
       refine ⟨_, rfl, s332, ?_⟩
       refine F.nx ?_
       refine Fq (.bool false) (r_not (b := true) rfl ek rfl) ?_
       refine Fq (.bool false) (r_pick (b := false) rfl ek ek) ?_
       refine F.es ?_
       have x48 := SG.blk s332 x48 (Option.some_ne_none _)
       have c333 := (SG.belowR c322 s332 (fun kq e => by cases e))
       have rd334 := Rd.kept rd323 (SG.below s332)
       have rd335 := Rd.kept rd324 (SG.below s332)
       have rd336 := Rd.kept rd325 (SG.below s332)
       have rd338 := Rd.kept rd327 (SG.below s332)
       refine h27 _ _ ?_
       refine wp_cond_false ek ?_
       refine wp_skip ?_
       refine h25 _ _ ?_
       refine wk fun K28 h28 => ?_
       refine W.region_plain (row := none) [(0, true), (1, false), (2, true), (3, false)] kk ?_
       have s340 := SG.self w331 none
       refine W.sn (fun b => .slice (some ⟨b, 0, none⟩) 0 0) #[] 40 s340 rfl kk rfl (fun _ => by kernel_rfl) (fun b341 w342 hb343 k344 x345 s346 => ?_)
       refine F.nx ?_
       have lo347 : w.heap.size ≤ b341 := Nat.le_trans ((SG.belowR c333 s340 (fun kq e => by cases e))).size (Nat.le_of_eq hb343)
       refine Fv (.slice A21 n22 c23) ?_
       have ho355 := own_empty (base := w.heap.size) (size := 4) x345 lo347
       replace ho355 : World.ownsRow _ _ _ _ _ _ (valvesV []) := ho355
       replace ho355 : World.ownsRow _ _ _ _ _ _ (valvesV []) := ho355
       refine W.sapR (e := 40) (size := 4) (base := w.heap.size) (v := .slice (some ⟨b341, 0, none⟩) 0 0) (A := A21) (m := n22) (c := c23) s346 rfl rfl rfl rfl kk kk kk ho355 (Rd.kept rd335 (SG.below s346)) fm26 (valves_one _) (by omega) (by have := ((SG.belowR c333 s346 (fun kq e => by cases e))).size; omega) (.inr (fun kq e => by have := (s340).size; have := hb343; have e' := Option.some.inj e; simp at e'; omega)) (fun A363 cap364 w365 ho366 hg367 hat368 s369 => ?_)
       refine F.nx ?_
       have ho366 := own_joinV ho366
       have fr377 : ∀ kq, (.slice A363 (0 + n22) cap364 : Value).ownBlock = some kq → w331.heap.size ≤ kq := fun kq e => by
         have hs := (s346).size
         rcases hat368 with h | h
         · exact (show ∀ kq, Value.ownBlock _ = some kq → w331.heap.size ≤ kq from (fun kq e => by have := (s340).size; have := hb343; have e' := Option.some.inj e; simp at e'; omega)) kq (h.symm.trans e)
         · have := Option.some.inj (h.symm.trans e); omega
       replace ho366 : World.ownsRow _ _ _ _ _ _ (valvesV dl24) := ho366
       refine Fa (.slice A363 (0 + n22) cap364) ?_
       refine F.es ?_
       have x48 := SG.blk s369 x48 (Option.some_ne_none _)
       have c378 := (SG.belowR c333 s369 (fun kq e => by cases e))
       have rd379 := Rd.kept rd334 (SG.below s369)
       have rd381 := Rd.kept rd336 (SG.below s369)
       have rd383 := Rd.kept rd338 (SG.below s369)
       refine h28 _ _ ?_
       as_aux_lemma =>
        refine wk fun K29 h29 => ?_
        refine wk fun K30 h30 => ?_
        refine W.region_quiet [(0, false)] kk ?_
        refine Fa (.int .i64 0) ?_
        refine F.es ?_
        refine h30 _ _ ?_
        refine wp_block ?_
        have rd386 := own_rd ho366
        have hl387 := rd_valves_len rd386
        have fm388 := own_fm ho366
        refine loopK (fun am1 aa1 wl1 => ∃ (j : Nat) (A1_20 : Option Addr) (n1_20 : Nat) (c1_20 : Nat) , Kn aa1 [(0, .slice A n c), (2, .bool false), (3, .pointer (some ⟨b35, 0, none⟩)), (5, .int .i64 x31), (6, .slice A55 ((SegmentOfPipe_v0 m10 dl14 dl24 x31).length) d56), (16, .slice A295 ((ValvesAround_v0 m10 dl14 dl24 x31).length) d296), (20, .slice A1_20 n1_20 c1_20), (21, .int .i64 (j : Int))] 273 ∧ (am1 = dl24.length - j) ∧ (j ≤ dl24.length) ∧ (wl1.heap[b35]? = some (.cells #[.int .i64 m10, .slice A11 n12 c13] 26 (0, 0))) ∧ (Fm A1_20 n1_20 c1_20) ∧ (Rd wl1 4 A1_20 n1_20 (valvesV (mixV dl24 (ValvesAround_v0 m10 dl14 dl24 x31) j))) ∧ (Rd wl1 1 A55 ((SegmentOfPipe_v0 m10 dl14 dl24 x31).length) (intsV (SegmentOfPipe_v0 m10 dl14 dl24 x31))) ∧ (Rd wl1 1 A295 ((ValvesAround_v0 m10 dl14 dl24 x31).length) (intsV (ValvesAround_v0 m10 dl14 dl24 x31))) ∧ (Rd wl1 4 A11 n12 (pipesV dl14)) ∧ (Below w.heap.size w wl1)) (dl24.length - 0) ?_ ?_
        ·exact ⟨0, A363, (0 + n22), cap364, Kn.of, rfl, (Nat.zero_le _), x48, fm388, (by rw [mixV_zero dl24 (ValvesAround_v0 m10 dl14 dl24 x31)]; exact rd386), rd381, rd383, rd379, c378⟩
        rintro am1 aa1 wl1 K31 h31 ⟨j, A1_20, n1_20, c1_20, ⟨U1, rfl⟩, rfl, hj, x48, fm1_20, rd1_20, kl1_0, kl1_1, kl1_3, c390⟩
        have hl1_20 := rd_valves_len rd1_20
        have hml := mixV_len dl24 (ValvesAround_v0 m10 dl14 dl24 x31) j
        refine wk fun K32 h32 => ?_
        refine wk fun K33 h33 => ?_
        refine W.region_quiet [(0, false), (1, false), (2, false), (3, false)] kk ?_
        refine Fv (.int .i64 (j : Int)) ?_
        refine Fv (.slice A1_20 n1_20 c1_20) ?_
        refine Fq (.int .i64 (n1_20 : Int)) (r_len (A := A1_20) (n := n1_20) (c := c1_20) rfl ek kk) ?_
        by_cases q391 : ((j : Int) : Int) < ((n1_20 : Int) : Int)
        ·refine Fq (.bool true) (r_lss (m := (j : Int)) (n := (n1_20 : Int)) rfl ek ek (decide_eq_true q391)) ?_
         refine F.es ?_
         refine h33 _ _ ?_
         refine wp_cond_true ek ?_
         refine wp_skip ?_
         refine h32 _ _ ?_
         refine wk fun K34 h34 => ?_
         refine wp_block ?_
         refine wk fun K35 h35 => ?_
         refine W.region_sch (row := none) (Sch.of [(0, false), (1, false), (2, false), (3, false), (4, false), (5, false), (6, false), (7, true), (8, false), (9, false), (10, false), (11, false), (12, false)]) kk kk (fun _ d _ _ _ h => by cases d <;> exact h) kk (fun w392 e393 s394 => ?_)
         refine Fq (.agg #[.int .i64 m10, .slice A11 n12 c13]) (r_load2 rfl ek kk kk (sgS (blk_cell (j := 0) x48 kk) (Option.some_ne_none _)) (sgS (blk_cell (j := 1) x48 kk) (Option.some_ne_none _))) ?_
         refine Fv (.slice A1_20 n1_20 c1_20) ?_
         refine Fv (.slice A1_20 n1_20 c1_20) ?_
         refine Fv (.int .i64 (j : Int)) ?_
         obtain ⟨x395, hx396⟩ := get_of (zs := (mixV dl24 (ValvesAround_v0 m10 dl14 dl24 x31) j)) (k := j) (by have := hl1_20; omega)
         obtain ⟨b397, o398, hA399, hb400, hc401, hc402, hc403, hc404⟩ := Rd.elValve rd1_20 hx396
         refine Fq (.pointer (some ⟨b397, o398 + j * 4, none⟩)) (r_idx (n := n1_20) (c := c1_20) (k := j) rfl ek hA399 kk kk (by have := hl1_20; omega)) ?_
         refine Fq (.pointer (some ⟨b397, o398 + j * 4, none⟩)) (r_field0 rfl ek kk) ?_
         refine Fl (.int .i64 x395.id) (sgS hc401 (by simp)) ?_
         refine Fc [.agg #[.int .i64 m10, .slice A11 n12 c13], .slice A1_20 n1_20 c1_20, .int .i64 x395.id, .bool true] (TurnValve_impl m10 A11 n12 c13 dl14 A1_20 n1_20 c1_20 (mixV dl24 (ValvesAround_v0 m10 dl14 dl24 x31) j) x395.id true w392 (Rd.kept kl1_3 (SG.below s394)) (Rd.kept rd1_20 (SG.below s394)) (by omega) (by omega) fm16 fm1_20) ?_
         rintro e w413 ⟨A405, d406, rfl, r407, b412⟩
         have s414 := SG.of_below s394 b412
         refine ⟨_, rfl, s414, ?_⟩
         refine F.nx ?_
         have rd408 := own_rd r407
         have fm409 := own_fm r407
         have hl410 : (TurnValve_v0 m10 dl14 (mixV dl24 (ValvesAround_v0 m10 dl14 dl24 x31) j) x395.id true).length = (TurnValve_v0 m10 dl14 (mixV dl24 (ValvesAround_v0 m10 dl14 dl24 x31) j) x395.id true).length := rfl
         have hb415 := TurnValve_len m10 dl14 (mixV dl24 (ValvesAround_v0 m10 dl14 dl24 x31) j) x395.id true
         refine Fv (.tuple #[.slice A405 ((TurnValve_v0 m10 dl14 (mixV dl24 (ValvesAround_v0 m10 dl14 dl24 x31) j) x395.id true).length) d406, .bool (TurnValve_v1 m10 dl14 (mixV dl24 (ValvesAround_v0 m10 dl14 dl24 x31) j) x395.id true)]) ?_
         refine Fq (.slice A405 ((TurnValve_v0 m10 dl14 (mixV dl24 (ValvesAround_v0 m10 dl14 dl24 x31) j) x395.id true).length) d406) (r_extract (vs := #[.slice A405 ((TurnValve_v0 m10 dl14 (mixV dl24 (ValvesAround_v0 m10 dl14 dl24 x31) j) x395.id true).length) d406, .bool (TurnValve_v1 m10 dl14 (mixV dl24 (ValvesAround_v0 m10 dl14 dl24 x31) j) x395.id true)]) rfl ek kk) ?_
         refine Fq (.bool (TurnValve_v1 m10 dl14 (mixV dl24 (ValvesAround_v0 m10 dl14 dl24 x31) j) x395.id true)) (r_extract (vs := #[.slice A405 ((TurnValve_v0 m10 dl14 (mixV dl24 (ValvesAround_v0 m10 dl14 dl24 x31) j) x395.id true).length) d406, .bool (TurnValve_v1 m10 dl14 (mixV dl24 (ValvesAround_v0 m10 dl14 dl24 x31) j) x395.id true)]) rfl ek kk) ?_
         refine Fa (.slice A405 ((TurnValve_v0 m10 dl14 (mixV dl24 (ValvesAround_v0 m10 dl14 dl24 x31) j) x395.id true).length) d406) ?_
         refine Fa (.bool (TurnValve_v1 m10 dl14 (mixV dl24 (ValvesAround_v0 m10 dl14 dl24 x31) j) x395.id true)) ?_
         refine F.es ?_
         have x48 := SG.blk s414 x48 (Option.some_ne_none _)
         have c416 := (SG.belowR c390 s414 (fun kq e => by cases e))
         have rd417 := Rd.kept kl1_3 (SG.below s414)
         have rd418 := Rd.kept kl1_0 (SG.below s414)
         have rd419 := Rd.kept kl1_1 (SG.below s414)
         have rd420 := Rd.kept rd1_20 (SG.below s414)
         refine h35 _ _ ?_
         as_aux_lemma =>
          refine wk fun K36 h36 => ?_
          refine W.region_plain (row := none) [(0, false), (1, false), (2, false), (3, false), (4, false), (5, false), (6, false), (7, false), (8, true), (9, false)] kk ?_
          have s421 := SG.self w413 none
          refine Fv (.bool (TurnValve_v1 m10 dl14 (mixV dl24 (ValvesAround_v0 m10 dl14 dl24 x31) j) x395.id true)) ?_
          refine Fv (.bool (TurnValve_v1 m10 dl14 (mixV dl24 (ValvesAround_v0 m10 dl14 dl24 x31) j) x395.id true)) ?_
          rcases Bool.eq_false_or_eq_true (TurnValve_v1 m10 dl14 (mixV dl24 (ValvesAround_v0 m10 dl14 dl24 x31) j) x395.id true) with q422 | q422
          ·rw [q422]
           refine Fv (.slice A295 ((ValvesAround_v0 m10 dl14 dl24 x31).length) d296) ?_
           refine Fv (.slice A1_20 n1_20 c1_20) ?_
           refine Fv (.int .i64 (j : Int)) ?_
           obtain ⟨b423, o424, hA425, hb426, hc427, hc428, hc429, hc430⟩ := Rd.elValve rd420 hx396
           refine Fq (.pointer (some ⟨b423, o424 + j * 4, none⟩)) (r_idx (n := n1_20) (c := c1_20) (k := j) rfl ek hA425 kk kk (by have := hl1_20; omega)) ?_
           refine Fq (.pointer (some ⟨b423, o424 + j * 4, none⟩)) (r_field0 rfl ek kk) ?_
           refine Fl (.int .i64 x395.id) (sgS hc427 (by simp)) ?_
           refine Fc [.slice A295 ((ValvesAround_v0 m10 dl14 dl24 x31).length) d296, .int .i64 x395.id] (vHas_any A295 ((ValvesAround_v0 m10 dl14 dl24 x31).length) d296 (ValvesAround_v0 m10 dl14 dl24 x31) x395.id _ (Rd.kept rd419 (SG.below s421)) (by omega)) ?_
           rintro e w432 ⟨rfl, b431⟩
           have s433 := SG.of_below s421 b431
           refine ⟨_, rfl, s433, ?_⟩
           refine F.nx ?_
           rcases Bool.eq_false_or_eq_true ((ValvesAround_v0 m10 dl14 dl24 x31).contains x395.id) with q434 | q434
           ·rw [q434]
            refine Fq (.bool true) (r_pick (b := true) rfl ek ek) ?_
            refine F.es ?_
            have x48 := SG.blk s433 x48 (Option.some_ne_none _)
            have c435 := (SG.belowR c416 s433 (fun kq e => by cases e))
            have rd436 := Rd.kept rd417 (SG.below s433)
            have rd437 := Rd.kept rd418 (SG.below s433)
            have rd438 := Rd.kept rd419 (SG.below s433)
            have rd440 := Rd.kept rd408 (SG.below s433)
            refine h36 _ _ ?_
            refine wp_cond_true ek ?_
            refine W.region_quiet [(0, false), (1, false)] kk ?_
            refine Fv (.slice A405 ((TurnValve_v0 m10 dl14 (mixV dl24 (ValvesAround_v0 m10 dl14 dl24 x31) j) x395.id true).length) d406) ?_
            refine Fa (.slice A405 ((TurnValve_v0 m10 dl14 (mixV dl24 (ValvesAround_v0 m10 dl14 dl24 x31) j) x395.id true).length) d406) ?_
            refine F.es ?_
            refine h34 _ _ ?_
            refine W.region_quiet [(0, false), (1, false), (2, false)] kk ?_
            refine Fv (.int .i64 (j : Int)) ?_
            refine Fq (.int .i64 ((j + 1 : Nat) : Int)) (r_add (m := (j : Int)) (n := 1) (z := ((j + 1 : Nat) : Int)) rfl ek ek (by omega) (by omega)) ?_
            refine Fa (.int .i64 ((j + 1 : Nat) : Int)) ?_
            refine F.es ?_
            have hml := mixV_len dl24 (ValvesAround_v0 m10 dl14 dl24 x31) (j + 1)
            exact h31 _ _ _ (by omega : (dl24.length - (j + 1)) < _) ⟨j + 1, A405, (TurnValve_v0 m10 dl14 (mixV dl24 (ValvesAround_v0 m10 dl14 dl24 x31) j) x395.id true).length, d406, Kn.of, rfl, (by omega), x48, fm409, (by rw [((mix_turn (seg_good q293) (plan := (ValvesAround_v0 m10 dl14 dl24 x31)) (i := j) (x := x395) (by rw [← mix_self dl24 (ValvesAround_v0 m10 dl14 dl24 x31) j]; exact hx396)).2.1 q422 q434).symm]; exact rd440), rd437, rd438, rd436, c435⟩
           rw [q434]
           refine Fq (.bool false) (r_pick (b := true) rfl ek ek) ?_
           refine F.es ?_
           have x48 := SG.blk s433 x48 (Option.some_ne_none _)
           have c441 := (SG.belowR c416 s433 (fun kq e => by cases e))
           have rd442 := Rd.kept rd417 (SG.below s433)
           have rd443 := Rd.kept rd418 (SG.below s433)
           have rd444 := Rd.kept rd419 (SG.below s433)
           have rd445 := Rd.kept rd420 (SG.below s433)
           refine h36 _ _ ?_
           refine wp_cond_false ek ?_
           refine wp_skip ?_
           refine h34 _ _ ?_
           refine W.region_quiet [(0, false), (1, false), (2, false)] kk ?_
           refine Fv (.int .i64 (j : Int)) ?_
           refine Fq (.int .i64 ((j + 1 : Nat) : Int)) (r_add (m := (j : Int)) (n := 1) (z := ((j + 1 : Nat) : Int)) rfl ek ek (by omega) (by omega)) ?_
           refine Fa (.int .i64 ((j + 1 : Nat) : Int)) ?_
           refine F.es ?_
           have hml := mixV_len dl24 (ValvesAround_v0 m10 dl14 dl24 x31) (j + 1)
           exact h31 _ _ _ (by omega : (dl24.length - (j + 1)) < _) ⟨j + 1, A1_20, n1_20, c1_20, Kn.of, rfl, (by omega), x48, fm1_20, (by rw [(mix_turn (seg_good q293) (plan := (ValvesAround_v0 m10 dl14 dl24 x31)) (i := j) (x := x395) (by rw [← mix_self dl24 (ValvesAround_v0 m10 dl14 dl24 x31) j]; exact hx396)).2.2 (fun h9 => by rw [q434] at h9; exact absurd h9.2 (by simp))]; exact rd445), rd443, rd444, rd442, c441⟩
          rw [q422]
          refine Fs s421 ?_
          refine Fs s421 ?_
          refine Fs s421 ?_
          refine Fs s421 ?_
          refine Fs s421 ?_
          refine Fs s421 ?_
          refine Fs s421 ?_
          refine Fq (.bool false) (r_pick (b := false) rfl ek ek) ?_
          refine F.es ?_
          have x48 := SG.blk s421 x48 (Option.some_ne_none _)
          have c447 := (SG.belowR c416 s421 (fun kq e => by cases e))
          have rd448 := Rd.kept rd417 (SG.below s421)
          have rd449 := Rd.kept rd418 (SG.below s421)
          have rd450 := Rd.kept rd419 (SG.below s421)
          have rd451 := Rd.kept rd420 (SG.below s421)
          refine h36 _ _ ?_
          as_aux_lemma =>
           refine wp_cond_false ek ?_
           refine wp_skip ?_
           refine h34 _ _ ?_
           refine W.region_quiet [(0, false), (1, false), (2, false)] kk ?_
           refine Fv (.int .i64 (j : Int)) ?_
           refine Fq (.int .i64 ((j + 1 : Nat) : Int)) (r_add (m := (j : Int)) (n := 1) (z := ((j + 1 : Nat) : Int)) rfl ek ek (by omega) (by omega)) ?_
           refine Fa (.int .i64 ((j + 1 : Nat) : Int)) ?_
           refine F.es ?_
           have hml := mixV_len dl24 (ValvesAround_v0 m10 dl14 dl24 x31) (j + 1)
           exact h31 _ _ _ (by omega : (dl24.length - (j + 1)) < _) ⟨j + 1, A1_20, n1_20, c1_20, Kn.of, rfl, (by omega), x48, fm1_20, (by rw [(mix_turn (seg_good q293) (plan := (ValvesAround_v0 m10 dl14 dl24 x31)) (i := j) (x := x395) (by rw [← mix_self dl24 (ValvesAround_v0 m10 dl14 dl24 x31) j]; exact hx396)).2.2 (fun h9 => by rw [q422] at h9; exact absurd h9.1 (by simp))]; exact rd451), rd449, rd450, rd448, c447⟩
        refine Fq (.bool false) (r_lss (m := (j : Int)) (n := (n1_20 : Int)) rfl ek ek (decide_eq_false q391)) ?_
        refine F.es ?_
        refine h33 _ _ ?_
        refine wp_cond_false ek ?_
        refine wp_exit ?_
        refine h29 _ _ ?_
        refine wk fun K37 h37 => ?_
        refine W.region_quiet [(0, false)] kk ?_
        refine Fa (.int .i64 1) ?_
        refine F.es ?_
        refine h37 _ _ ?_
        refine wp_block ?_
        have hmx : mixV dl24 (ValvesAround_v0 m10 dl14 dl24 x31) j = shutV dl24 (ValvesAround_v0 m10 dl14 dl24 x31) := mixV_end (by omega)
        have rd454 : Rd wl1 4 A1_20 n1_20 (valvesV (shutV dl24 (ValvesAround_v0 m10 dl14 dl24 x31))) := by rw [← hmx]; exact rd1_20
        have hl455 := rd_valves_len rd454
        rw [shutV_len] at hl455
        refine loopK (fun am2 aa2 wl2 => ∃ (s : Int) , Kn aa2 [(0, .slice A n c), (2, .bool false), (3, .pointer (some ⟨b35, 0, none⟩)), (5, .int .i64 x31), (6, .slice A55 ((SegmentOfPipe_v0 m10 dl14 dl24 x31).length) d56), (20, .slice A1_20 n1_20 c1_20), (24, .int .i64 s)] 273 ∧ (am2 = (m10 + 1 - s).toNat) ∧ (1 ≤ s) ∧ (wl2.heap[b35]? = some (.cells #[.int .i64 m10, .slice A11 n12 c13] 26 (0, 0))) ∧ (Rd wl2 1 A55 ((SegmentOfPipe_v0 m10 dl14 dl24 x31).length) (intsV (SegmentOfPipe_v0 m10 dl14 dl24 x31))) ∧ (Rd wl2 4 A1_20 n1_20 (valvesV (shutV dl24 (ValvesAround_v0 m10 dl14 dl24 x31)))) ∧ (Rd wl2 4 A11 n12 (pipesV dl14)) ∧ (Below w.heap.size w wl2)) ((m10 + 1 - 1).toNat) ?_ ?_
        ·exact ⟨1, Kn.of, rfl, (by omega), x48, kl1_0, rd454, kl1_3, c390⟩
        rintro am2 aa2 wl2 K38 h38 ⟨s, ⟨U2, rfl⟩, rfl, hs, x48, kl2_0, kl2_1, kl2_2, c456⟩
        refine wk fun K39 h39 => ?_
        refine wk fun K40 h40 => ?_
        refine W.region_quiet [(0, false), (1, false), (2, false), (3, false)] kk ?_
        refine Fv (.int .i64 s) ?_
        refine Fq (.pointer (some ⟨b35, 0, none⟩)) (r_field0 rfl ek kk) ?_
        refine Fl (.int .i64 m10) (eqS (blk_cell (j := 0) x48 kk)) ?_
        by_cases q457 : (s : Int) ≤ (m10 : Int)
        ·refine Fq (.bool true) (r_leq (m := s) (n := m10) rfl ek ek (decide_eq_true q457)) ?_
         refine F.es ?_
         refine h40 _ _ ?_
         refine wp_cond_true ek ?_
         refine wp_skip ?_
         refine h39 _ _ ?_
         refine wk fun K41 h41 => ?_
         refine wp_block ?_
         refine wk fun K42 h42 => ?_
         refine W.region_plain (row := none) [(0, false), (1, false), (2, false), (3, true), (4, false), (5, false), (6, false), (7, false), (8, false)] kk ?_
         have s458 := SG.self wl2 none
         refine Fq (.agg #[.int .i64 m10, .slice A11 n12 c13]) (r_load2 rfl ek kk kk (sgS (blk_cell (j := 0) x48 kk) (Option.some_ne_none _)) (sgS (blk_cell (j := 1) x48 kk) (Option.some_ne_none _))) ?_
         refine Fv (.slice A1_20 n1_20 c1_20) ?_
         refine Fv (.int .i64 s) ?_
         refine Fc [.agg #[.int .i64 m10, .slice A11 n12 c13], .slice A1_20 n1_20 c1_20, .int .i64 s] (DryNodes_impl m10 A11 n12 c13 dl14 A1_20 n1_20 c1_20 (shutV dl24 (ValvesAround_v0 m10 dl14 dl24 x31)) s wl2 (Rd.kept kl2_2 (SG.below s458)) (Rd.kept kl2_1 (SG.below s458)) (by omega) (by omega) fm16 fm1_20) ?_
         rintro e w467 ⟨A459, d460, rfl, r461, b466⟩
         have s468 := SG.of_below s458 b466
         refine ⟨_, rfl, s468, ?_⟩
         refine F.nx ?_
         have rd462 := own_rd r461
         have hl464 : (DryNodes_v0 m10 dl14 (shutV dl24 (ValvesAround_v0 m10 dl14 dl24 x31)) s).length = (DryNodes_v0 m10 dl14 (shutV dl24 (ValvesAround_v0 m10 dl14 dl24 x31)) s).length := rfl
         have hb469 := DryNodes_len m10 dl14 (shutV dl24 (ValvesAround_v0 m10 dl14 dl24 x31)) s
         have q470 : (DryNodes_v1 m10 dl14 (shutV dl24 (ValvesAround_v0 m10 dl14 dl24 x31)) s) = true := (dry_ok q293 (by omega)).1
         rw [q470]
         refine Fv (.tuple #[.slice A459 ((DryNodes_v0 m10 dl14 (shutV dl24 (ValvesAround_v0 m10 dl14 dl24 x31)) s).length) d460, .bool true]) ?_
         refine Fq (.slice A459 ((DryNodes_v0 m10 dl14 (shutV dl24 (ValvesAround_v0 m10 dl14 dl24 x31)) s).length) d460) (r_extract (vs := #[.slice A459 ((DryNodes_v0 m10 dl14 (shutV dl24 (ValvesAround_v0 m10 dl14 dl24 x31)) s).length) d460, .bool true]) rfl ek kk) ?_
         refine Fq (.bool true) (r_extract (vs := #[.slice A459 ((DryNodes_v0 m10 dl14 (shutV dl24 (ValvesAround_v0 m10 dl14 dl24 x31)) s).length) d460, .bool true]) rfl ek kk) ?_
         refine Fa (.slice A459 ((DryNodes_v0 m10 dl14 (shutV dl24 (ValvesAround_v0 m10 dl14 dl24 x31)) s).length) d460) ?_
         refine Fa (.bool true) ?_
         refine F.es ?_
         have x48 := SG.blk s468 x48 (Option.some_ne_none _)
         have c471 := (SG.belowR c456 s468 (fun kq e => by cases e))
         have rd472 := Rd.kept kl2_2 (SG.below s468)
         have rd473 := Rd.kept kl2_0 (SG.below s468)
         have rd474 := Rd.kept kl2_1 (SG.below s468)
         refine h42 _ _ ?_
         as_aux_lemma =>
          refine wk fun K43 h43 => ?_
          refine W.region_plain (row := none) [(0, false), (1, false), (2, false), (3, true), (4, false), (5, false), (6, false), (7, false), (8, false)] kk ?_
          have s475 := SG.self w467 none
          refine Fq (.agg #[.int .i64 m10, .slice A11 n12 c13]) (r_load2 rfl ek kk kk (sgS (blk_cell (j := 0) x48 kk) (Option.some_ne_none _)) (sgS (blk_cell (j := 1) x48 kk) (Option.some_ne_none _))) ?_
          refine Fv (.slice A1_20 n1_20 c1_20) ?_
          refine Fv (.int .i64 s) ?_
          refine Fc [.agg #[.int .i64 m10, .slice A11 n12 c13], .slice A1_20 n1_20 c1_20, .int .i64 s] (DryPipes_impl m10 A11 n12 c13 dl14 A1_20 n1_20 c1_20 (shutV dl24 (ValvesAround_v0 m10 dl14 dl24 x31)) s w467 (Rd.kept rd472 (SG.below s475)) (Rd.kept rd474 (SG.below s475)) (by omega) (by omega) fm16 fm1_20) ?_
          rintro e w484 ⟨A476, d477, rfl, r478, b483⟩
          have s485 := SG.of_below s475 b483
          refine ⟨_, rfl, s485, ?_⟩
          refine F.nx ?_
          have rd479 := own_rd r478
          have hl481 : (DryPipes_v0 m10 dl14 (shutV dl24 (ValvesAround_v0 m10 dl14 dl24 x31)) s).length = (DryPipes_v0 m10 dl14 (shutV dl24 (ValvesAround_v0 m10 dl14 dl24 x31)) s).length := rfl
          have hb486 := DryPipes_len m10 dl14 (shutV dl24 (ValvesAround_v0 m10 dl14 dl24 x31)) s
          have q487 : (DryPipes_v1 m10 dl14 (shutV dl24 (ValvesAround_v0 m10 dl14 dl24 x31)) s) = true := (dry_ok q293 (by omega)).2
          rw [q487]
          refine Fv (.tuple #[.slice A476 ((DryPipes_v0 m10 dl14 (shutV dl24 (ValvesAround_v0 m10 dl14 dl24 x31)) s).length) d477, .bool true]) ?_
          refine Fq (.slice A476 ((DryPipes_v0 m10 dl14 (shutV dl24 (ValvesAround_v0 m10 dl14 dl24 x31)) s).length) d477) (r_extract (vs := #[.slice A476 ((DryPipes_v0 m10 dl14 (shutV dl24 (ValvesAround_v0 m10 dl14 dl24 x31)) s).length) d477, .bool true]) rfl ek kk) ?_
          refine Fq (.bool true) (r_extract (vs := #[.slice A476 ((DryPipes_v0 m10 dl14 (shutV dl24 (ValvesAround_v0 m10 dl14 dl24 x31)) s).length) d477, .bool true]) rfl ek kk) ?_
          refine Fa (.slice A476 ((DryPipes_v0 m10 dl14 (shutV dl24 (ValvesAround_v0 m10 dl14 dl24 x31)) s).length) d477) ?_
          refine Fa (.bool true) ?_
          refine F.es ?_
          have x48 := SG.blk s485 x48 (Option.some_ne_none _)
          have c488 := (SG.belowR c471 s485 (fun kq e => by cases e))
          have rd489 := Rd.kept rd472 (SG.below s485)
          have rd490 := Rd.kept rd473 (SG.below s485)
          have rd491 := Rd.kept rd474 (SG.below s485)
          have rd492 := Rd.kept rd462 (SG.below s485)
          refine h43 _ _ ?_
          refine joinK (fun amj2 aaj2 wlj2 => Kn aaj2 [(0, .slice A n c), (2, .bool false), (3, .pointer (some ⟨b35, 0, none⟩)), (5, .int .i64 x31), (6, .slice A55 ((SegmentOfPipe_v0 m10 dl14 dl24 x31).length) d56), (20, .slice A1_20 n1_20 c1_20), (24, .int .i64 s), (25, .slice A459 ((DryNodes_v0 m10 dl14 (shutV dl24 (ValvesAround_v0 m10 dl14 dl24 x31)) s).length) d460), (26, .bool true), (27, .slice A476 ((DryPipes_v0 m10 dl14 (shutV dl24 (ValvesAround_v0 m10 dl14 dl24 x31)) s).length) d477), (28, .bool true), (175, .bool true)] 273 ∧ (amj2 = 0) ∧ (wlj2.heap[b35]? = some (.cells #[.int .i64 m10, .slice A11 n12 c13] 26 (0, 0))) ∧ (Rd wlj2 1 A55 ((SegmentOfPipe_v0 m10 dl14 dl24 x31).length) (intsV (SegmentOfPipe_v0 m10 dl14 dl24 x31))) ∧ (Rd wlj2 4 A1_20 n1_20 (valvesV (shutV dl24 (ValvesAround_v0 m10 dl14 dl24 x31)))) ∧ (Rd wlj2 1 A459 ((DryNodes_v0 m10 dl14 (shutV dl24 (ValvesAround_v0 m10 dl14 dl24 x31)) s).length) (intsV (DryNodes_v0 m10 dl14 (shutV dl24 (ValvesAround_v0 m10 dl14 dl24 x31)) s))) ∧ (Rd wlj2 1 A476 ((DryPipes_v0 m10 dl14 (shutV dl24 (ValvesAround_v0 m10 dl14 dl24 x31)) s).length) (intsV (DryPipes_v0 m10 dl14 (shutV dl24 (ValvesAround_v0 m10 dl14 dl24 x31)) s))) ∧ (Rd wlj2 4 A11 n12 (pipesV dl14)) ∧ (Below w.heap.size w wlj2)) ?_ ?_
          ·rintro amj2 aaj2 wlj2 ⟨⟨Uj2, rfl⟩, rfl, x48, klj2_0, klj2_1, klj2_2, klj2_3, klj2_4, c493⟩
           refine wk fun K44 h44 => ?_
           refine W.region_quiet [(0, false)] kk ?_
           refine Fa (.int .i64 0) ?_
           refine F.es ?_
           refine h44 _ _ ?_
           refine wp_block ?_
           refine loopK (fun am3 aa3 wl3 => ∃ (k : Nat) , Kn aa3 [(0, .slice A n c), (2, .bool false), (3, .pointer (some ⟨b35, 0, none⟩)), (5, .int .i64 x31), (6, .slice A55 ((SegmentOfPipe_v0 m10 dl14 dl24 x31).length) d56), (20, .slice A1_20 n1_20 c1_20), (24, .int .i64 s), (25, .slice A459 ((DryNodes_v0 m10 dl14 (shutV dl24 (ValvesAround_v0 m10 dl14 dl24 x31)) s).length) d460), (26, .bool true), (27, .slice A476 ((DryPipes_v0 m10 dl14 (shutV dl24 (ValvesAround_v0 m10 dl14 dl24 x31)) s).length) d477), (28, .bool true), (29, .int .i64 (k : Int)), (175, .bool true)] 273 ∧ (am3 = (SegmentOfPipe_v0 m10 dl14 dl24 x31).length - k) ∧ (k ≤ (SegmentOfPipe_v0 m10 dl14 dl24 x31).length) ∧ (wl3.heap[b35]? = some (.cells #[.int .i64 m10, .slice A11 n12 c13] 26 (0, 0))) ∧ (Rd wl3 1 A55 ((SegmentOfPipe_v0 m10 dl14 dl24 x31).length) (intsV (SegmentOfPipe_v0 m10 dl14 dl24 x31))) ∧ (Rd wl3 4 A1_20 n1_20 (valvesV (shutV dl24 (ValvesAround_v0 m10 dl14 dl24 x31)))) ∧ (Rd wl3 1 A459 ((DryNodes_v0 m10 dl14 (shutV dl24 (ValvesAround_v0 m10 dl14 dl24 x31)) s).length) (intsV (DryNodes_v0 m10 dl14 (shutV dl24 (ValvesAround_v0 m10 dl14 dl24 x31)) s))) ∧ (Rd wl3 1 A476 ((DryPipes_v0 m10 dl14 (shutV dl24 (ValvesAround_v0 m10 dl14 dl24 x31)) s).length) (intsV (DryPipes_v0 m10 dl14 (shutV dl24 (ValvesAround_v0 m10 dl14 dl24 x31)) s))) ∧ (Rd wl3 4 A11 n12 (pipesV dl14)) ∧ (Below w.heap.size w wl3)) ((SegmentOfPipe_v0 m10 dl14 dl24 x31).length - 0) ?_ ?_
           ·exact ⟨0, Kn.of, rfl, (Nat.zero_le _), x48, klj2_0, klj2_1, klj2_2, klj2_3, klj2_4, c493⟩
           rintro am3 aa3 wl3 K45 h45 ⟨k, ⟨U3, rfl⟩, rfl, hk, x48, kl3_0, kl3_1, kl3_2, kl3_3, kl3_4, c494⟩
           refine wk fun K46 h46 => ?_
           refine wk fun K47 h47 => ?_
           refine W.region_quiet [(0, false), (1, false), (2, false), (3, false)] kk ?_
           refine Fv (.int .i64 (k : Int)) ?_
           refine Fv (.slice A55 ((SegmentOfPipe_v0 m10 dl14 dl24 x31).length) d56) ?_
           refine Fq (.int .i64 (((SegmentOfPipe_v0 m10 dl14 dl24 x31).length : Nat) : Int)) (r_len (A := A55) (n := (SegmentOfPipe_v0 m10 dl14 dl24 x31).length) (c := d56) rfl ek kk) ?_
           by_cases q495 : ((k : Int) : Int) < ((((SegmentOfPipe_v0 m10 dl14 dl24 x31).length : Nat) : Int) : Int)
           ·refine Fq (.bool true) (r_lss (m := (k : Int)) (n := (((SegmentOfPipe_v0 m10 dl14 dl24 x31).length : Nat) : Int)) rfl ek ek (decide_eq_true q495)) ?_
            refine F.es ?_
            refine h47 _ _ ?_
            refine wp_cond_true ek ?_
            refine wp_skip ?_
            refine h46 _ _ ?_
            refine wk fun K48 h48 => ?_
            refine wp_block ?_
            refine wk fun K49 h49 => ?_
            refine W.region_plain (row := none) [(0, false), (1, false), (2, true), (3, false), (4, false), (5, false), (6, false), (7, false), (8, false), (9, false), (10, true), (11, false), (12, false)] kk ?_
            have s496 := SG.self wl3 none
            refine Fv (.slice A55 ((SegmentOfPipe_v0 m10 dl14 dl24 x31).length) d56) ?_
            refine Fv (.int .i64 s) ?_
            refine Fc [.slice A55 ((SegmentOfPipe_v0 m10 dl14 dl24 x31).length) d56, .int .i64 s] (vHas_any A55 ((SegmentOfPipe_v0 m10 dl14 dl24 x31).length) d56 (SegmentOfPipe_v0 m10 dl14 dl24 x31) s _ (Rd.kept kl3_0 (SG.below s496)) (by omega)) ?_
            rintro e w498 ⟨rfl, b497⟩
            have s499 := SG.of_below s496 b497
            refine ⟨_, rfl, s499, ?_⟩
            refine F.nx ?_
            rcases Bool.eq_false_or_eq_true ((SegmentOfPipe_v0 m10 dl14 dl24 x31).contains s) with q500 | q500
            ·rw [q500]
             refine Fq (.bool false) (r_not (b := true) rfl ek rfl) ?_
             refine Fv (.bool false) ?_
             refine Fs s499 ?_
             refine Fs s499 ?_
             refine Fs s499 ?_
             refine Fs s499 ?_
             refine Fs s499 ?_
             refine Fs s499 ?_
             refine Fs s499 ?_
             refine Fq (.bool false) (r_pick (b := false) rfl ek ek) ?_
             refine F.es ?_
             have x48 := SG.blk s499 x48 (Option.some_ne_none _)
             have c501 := (SG.belowR c494 s499 (fun kq e => by cases e))
             have rd502 := Rd.kept kl3_4 (SG.below s499)
             have rd503 := Rd.kept kl3_0 (SG.below s499)
             have rd504 := Rd.kept kl3_1 (SG.below s499)
             have rd505 := Rd.kept kl3_2 (SG.below s499)
             have rd506 := Rd.kept kl3_3 (SG.below s499)
             refine h49 _ _ ?_
             as_aux_lemma =>
              refine wp_cond_false ek ?_
              refine wp_skip ?_
              refine h48 _ _ ?_
              refine W.region_quiet [(0, false), (1, false), (2, false)] kk ?_
              refine Fv (.int .i64 (k : Int)) ?_
              refine Fq (.int .i64 ((k + 1 : Nat) : Int)) (r_add (m := (k : Int)) (n := 1) (z := ((k + 1 : Nat) : Int)) rfl ek ek (by omega) (by omega)) ?_
              refine Fa (.int .i64 ((k + 1 : Nat) : Int)) ?_
              refine F.es ?_
              exact h45 _ _ _ (by omega : ((SegmentOfPipe_v0 m10 dl14 dl24 x31).length - (k + 1)) < _) ⟨k + 1, Kn.of, rfl, (by omega), x48, rd503, rd504, rd505, rd506, rd502, c501⟩
            rw [q500]
            refine Fq (.bool true) (r_not (b := false) rfl ek rfl) ?_
            refine Fv (.bool true) ?_
            refine Fv (.slice A459 ((DryNodes_v0 m10 dl14 (shutV dl24 (ValvesAround_v0 m10 dl14 dl24 x31)) s).length) d460) ?_
            refine Fv (.slice A55 ((SegmentOfPipe_v0 m10 dl14 dl24 x31).length) d56) ?_
            refine Fv (.int .i64 (k : Int)) ?_
            obtain ⟨x507, hx508⟩ := get_of (zs := (SegmentOfPipe_v0 m10 dl14 dl24 x31)) (k := k) (by have := hl60; omega)
            obtain ⟨b509, o510, hA511, hb512, hc513⟩ := Rd.elInt kl3_0 hx508
            refine Fq (.pointer (some ⟨b509, o510 + k, none⟩)) (r_idx1 (n := (SegmentOfPipe_v0 m10 dl14 dl24 x31).length) (c := d56) (k := k) rfl ek hA511 kk kk (by have := hl60; omega)) ?_
            refine Fl (.int .i64 x507) (sgS hc513 (by simp)) ?_
            refine Fc [.slice A459 ((DryNodes_v0 m10 dl14 (shutV dl24 (ValvesAround_v0 m10 dl14 dl24 x31)) s).length) d460, .int .i64 x507] (vHas_any A459 ((DryNodes_v0 m10 dl14 (shutV dl24 (ValvesAround_v0 m10 dl14 dl24 x31)) s).length) d460 (DryNodes_v0 m10 dl14 (shutV dl24 (ValvesAround_v0 m10 dl14 dl24 x31)) s) x507 _ (Rd.kept kl3_2 (SG.below s499)) (by omega)) ?_
            rintro e w515 ⟨rfl, b514⟩
            have s516 := SG.of_below s499 b514
            refine ⟨_, rfl, s516, ?_⟩
            refine F.nx ?_
            have q517 : ((DryNodes_v0 m10 dl14 (shutV dl24 (ValvesAround_v0 m10 dl14 dl24 x31)) s).contains x507) = true := (dry_pipe q293 (by omega) q500).2 x507 (List.mem_of_getElem? hx508)
            rw [q517]
            refine Fq (.bool false) (r_not (b := true) rfl ek rfl) ?_
            refine Fq (.bool false) (r_pick (b := true) rfl ek ek) ?_
            refine F.es ?_
            have x48 := SG.blk s516 x48 (Option.some_ne_none _)
            have c518 := (SG.belowR c494 s516 (fun kq e => by cases e))
            have rd519 := Rd.kept kl3_4 (SG.below s516)
            have rd520 := Rd.kept kl3_0 (SG.below s516)
            have rd521 := Rd.kept kl3_1 (SG.below s516)
            have rd522 := Rd.kept kl3_2 (SG.below s516)
            have rd523 := Rd.kept kl3_3 (SG.below s516)
            refine h49 _ _ ?_
            refine wp_cond_false ek ?_
            refine wp_skip ?_
            refine h48 _ _ ?_
            refine W.region_quiet [(0, false), (1, false), (2, false)] kk ?_
            refine Fv (.int .i64 (k : Int)) ?_
            refine Fq (.int .i64 ((k + 1 : Nat) : Int)) (r_add (m := (k : Int)) (n := 1) (z := ((k + 1 : Nat) : Int)) rfl ek ek (by omega) (by omega)) ?_
            refine Fa (.int .i64 ((k + 1 : Nat) : Int)) ?_
            refine F.es ?_
            exact h45 _ _ _ (by omega : ((SegmentOfPipe_v0 m10 dl14 dl24 x31).length - (k + 1)) < _) ⟨k + 1, Kn.of, rfl, (by omega), x48, rd520, rd521, rd522, rd523, rd519, c518⟩
           refine Fq (.bool false) (r_lss (m := (k : Int)) (n := (((SegmentOfPipe_v0 m10 dl14 dl24 x31).length : Nat) : Int)) rfl ek ek (decide_eq_false q495)) ?_
           refine F.es ?_
           refine h47 _ _ ?_
           refine wp_cond_false ek ?_
           refine wp_exit ?_
           refine h41 _ _ ?_
           refine W.region_quiet [(0, false), (1, false), (2, false)] kk ?_
           refine Fv (.int .i64 s) ?_
           refine Fq (.int .i64 (s + 1)) (r_add (m := s) (n := 1) (z := s + 1) rfl ek ek (rfl) (by omega)) ?_
           refine Fa (.int .i64 (s + 1)) ?_
           refine F.es ?_
           exact h38 _ _ _ (by omega : ((m10 + 1 - (s + 1)).toNat) < _) ⟨s + 1, Kn.of, rfl, (by omega), x48, kl3_0, kl3_1, kl3_4, c494⟩
          intro K50 h50
          refine wk fun K51 h51 => ?_
          refine W.region_plain (row := none) [(0, false), (1, false), (2, false), (3, false), (4, false), (5, false), (6, false), (7, false), (8, false), (9, true), (10, false), (11, false), (12, false), (13, false), (14, true), (15, false), (16, false), (17, false)] kk ?_
          have s524 := SG.self w484 none
          refine Fv (.bool true) ?_
          refine Fq (.bool false) (r_not (b := true) rfl ek rfl) ?_
          refine Fv (.bool false) ?_
          refine Fv (.bool true) ?_
          refine Fq (.bool false) (r_not (b := true) rfl ek rfl) ?_
          refine Fq (.bool false) (r_pick (b := false) rfl ek ek) ?_
          refine Fv (.bool false) ?_
          refine Fv (.slice A55 ((SegmentOfPipe_v0 m10 dl14 dl24 x31).length) d56) ?_
          refine Fv (.int .i64 s) ?_
          refine Fc [.slice A55 ((SegmentOfPipe_v0 m10 dl14 dl24 x31).length) d56, .int .i64 s] (vHas_any A55 ((SegmentOfPipe_v0 m10 dl14 dl24 x31).length) d56 (SegmentOfPipe_v0 m10 dl14 dl24 x31) s _ (Rd.kept rd490 (SG.below s524)) (by omega)) ?_
          rintro e w526 ⟨rfl, b525⟩
          have s527 := SG.of_below s524 b525
          refine ⟨_, rfl, s527, ?_⟩
          refine F.nx ?_
          rcases Bool.eq_false_or_eq_true ((SegmentOfPipe_v0 m10 dl14 dl24 x31).contains s) with q528 | q528
          ·rw [q528]
           refine Fq (.bool false) (r_not (b := true) rfl ek rfl) ?_
           refine Fv (.bool false) ?_
           refine Fs s527 ?_
           refine Fs s527 ?_
           refine Fs s527 ?_
           refine Fs s527 ?_
           refine Fq (.bool false) (r_pick (b := false) rfl ek ek) ?_
           refine Fq (.bool false) (r_pick (b := false) rfl ek ek) ?_
           refine F.es ?_
           have x48 := SG.blk s527 x48 (Option.some_ne_none _)
           have c529 := (SG.belowR c488 s527 (fun kq e => by cases e))
           have rd530 := Rd.kept rd489 (SG.below s527)
           have rd531 := Rd.kept rd490 (SG.below s527)
           have rd532 := Rd.kept rd491 (SG.below s527)
           have rd533 := Rd.kept rd492 (SG.below s527)
           have rd534 := Rd.kept rd479 (SG.below s527)
           refine h51 _ _ ?_
           as_aux_lemma =>
            refine wp_cond_false ek ?_
            refine wp_skip ?_
            exact h50 _ _ _ ⟨Kn.of, rfl, x48, rd531, rd532, rd533, rd534, rd530, c529⟩
          rw [q528]
          refine Fq (.bool true) (r_not (b := false) rfl ek rfl) ?_
          refine Fv (.bool true) ?_
          refine Fv (.slice A476 ((DryPipes_v0 m10 dl14 (shutV dl24 (ValvesAround_v0 m10 dl14 dl24 x31)) s).length) d477) ?_
          refine Fv (.int .i64 x31) ?_
          refine Fc [.slice A476 ((DryPipes_v0 m10 dl14 (shutV dl24 (ValvesAround_v0 m10 dl14 dl24 x31)) s).length) d477, .int .i64 x31] (vHas_any A476 ((DryPipes_v0 m10 dl14 (shutV dl24 (ValvesAround_v0 m10 dl14 dl24 x31)) s).length) d477 (DryPipes_v0 m10 dl14 (shutV dl24 (ValvesAround_v0 m10 dl14 dl24 x31)) s) x31 _ (Rd.kept rd479 (SG.below s527)) (by omega)) ?_
          rintro e w536 ⟨rfl, b535⟩
          have s537 := SG.of_below s527 b535
          refine ⟨_, rfl, s537, ?_⟩
          refine F.nx ?_
          have q538 : ((DryPipes_v0 m10 dl14 (shutV dl24 (ValvesAround_v0 m10 dl14 dl24 x31)) s).contains x31) = true := (dry_pipe q293 (by omega) q528).1
          rw [q538]
          refine Fq (.bool false) (r_not (b := true) rfl ek rfl) ?_
          refine Fq (.bool false) (r_pick (b := true) rfl ek ek) ?_
          refine Fq (.bool false) (r_pick (b := false) rfl ek ek) ?_
          refine F.es ?_
          have x48 := SG.blk s537 x48 (Option.some_ne_none _)
          have c539 := (SG.belowR c488 s537 (fun kq e => by cases e))
          have rd540 := Rd.kept rd489 (SG.below s537)
          have rd541 := Rd.kept rd490 (SG.below s537)
          have rd542 := Rd.kept rd491 (SG.below s537)
          have rd543 := Rd.kept rd492 (SG.below s537)
          have rd544 := Rd.kept rd479 (SG.below s537)
          refine h51 _ _ ?_
          refine wp_cond_false ek ?_
          refine wp_skip ?_
          exact h50 _ _ _ ⟨Kn.of, rfl, x48, rd541, rd542, rd543, rd544, rd540, c539⟩
        refine Fq (.bool false) (r_leq (m := s) (n := m10) rfl ek ek (decide_eq_false q457)) ?_
        refine F.es ?_
        refine h40 _ _ ?_
        refine wp_cond_false ek ?_
        refine wp_exit ?_
        exact h22 _ _ _ ⟨Kn.of, rfl, c456⟩
     rw [q293]
     refine wp_cond_false ek ?_
     refine wp_skip ?_
     exact h22 _ _ _ ⟨Kn.of, rfl, c124⟩
   rw [q112]
   refine Fc [.agg #[.int .i64 m10, .slice A11 n12 c13], .slice A21 n22 c23] (IsValidValves_spec m10 A11 n12 c13 dl14 A21 n22 c23 dl24  w110 (Rd.kept rd96 (SG.below s111)) (Rd.kept rd97 (SG.below s111)) (by omega) (by omega) fm16 fm26) ?_
   rintro e w546 ⟨rfl, b545⟩
   have s547 := SG.of_below s111 b545
   refine ⟨_, rfl, s547, ?_⟩
   refine F.nx ?_
   rw [q112]
   refine Fq (.bool false) (r_neqB (m := false) (n := false) rfl ek ek kk rfl) ?_
   refine Fq (.bool false) (r_pick (b := false) rfl ek ek) ?_
   refine F.es ?_
   have x48 := SG.blk s547 x48 (Option.some_ne_none _)
   have c549 := (SG.belowR c95 s547 (fun kq e => by cases e))
   have rd550 := Rd.kept rd96 (SG.below s547)
   have rd551 := Rd.kept rd97 (SG.below s547)
   have rd552 := Rd.kept rd98 (SG.below s547)
   have rd553 := Rd.kept rd99 (SG.below s547)
   refine h9 _ _ ?_
   refine wp_cond_false ek ?_
   refine wp_skip ?_
   refine h7 _ _ ?_
   as_aux_lemma =>
    refine wk fun K52 h52 => ?_
    refine wk fun K53 h53 => ?_
    refine W.region_quiet [(0, false)] kk ?_
    refine Fa (.int .i64 0) ?_
    refine F.es ?_
    refine h53 _ _ ?_
    refine wp_block ?_
    refine loopK (fun am0 aa0 wl0 => ∃ (i : Nat) , Kn aa0 [(0, .slice A n c), (2, .bool false), (3, .pointer (some ⟨b35, 0, none⟩)), (4, .slice A21 n22 c23), (5, .int .i64 x31), (6, .slice A55 ((SegmentOfPipe_v0 m10 dl14 dl24 x31).length) d56), (7, .slice A62 ((SegmentOfPipe_v1 m10 dl14 dl24 x31).length) d63), (8, .bool (SegmentOfPipe_v2 m10 dl14 dl24 x31)), (12, .int .i64 (i : Int))] 273 ∧ (am0 = (SegmentOfPipe_v0 m10 dl14 dl24 x31).length - i) ∧ (i ≤ (SegmentOfPipe_v0 m10 dl14 dl24 x31).length) ∧ (wl0.heap[b35]? = some (.cells #[.int .i64 m10, .slice A11 n12 c13] 26 (0, 0))) ∧ (Rd wl0 4 A21 n22 (valvesV dl24)) ∧ (Rd wl0 1 A55 ((SegmentOfPipe_v0 m10 dl14 dl24 x31).length) (intsV (SegmentOfPipe_v0 m10 dl14 dl24 x31))) ∧ (Rd wl0 1 A62 ((SegmentOfPipe_v1 m10 dl14 dl24 x31).length) (intsV (SegmentOfPipe_v1 m10 dl14 dl24 x31))) ∧ (Rd wl0 4 A11 n12 (pipesV dl14)) ∧ (Below w.heap.size w wl0)) ((SegmentOfPipe_v0 m10 dl14 dl24 x31).length - 0) ?_ ?_
    ·exact ⟨0, Kn.of, rfl, (Nat.zero_le _), x48, rd551, rd552, rd553, rd550, c549⟩
    rintro am0 aa0 wl0 K54 h54 ⟨i, ⟨U0, rfl⟩, rfl, hi, x48, kl0_0, kl0_1, kl0_2, kl0_3, c556⟩
    refine wk fun K55 h55 => ?_
    refine wk fun K56 h56 => ?_
    refine W.region_quiet [(0, false), (1, false), (2, false), (3, false)] kk ?_
    refine Fv (.int .i64 (i : Int)) ?_
    refine Fv (.slice A55 ((SegmentOfPipe_v0 m10 dl14 dl24 x31).length) d56) ?_
    refine Fq (.int .i64 (((SegmentOfPipe_v0 m10 dl14 dl24 x31).length : Nat) : Int)) (r_len (A := A55) (n := (SegmentOfPipe_v0 m10 dl14 dl24 x31).length) (c := d56) rfl ek kk) ?_
    by_cases q557 : ((i : Int) : Int) < ((((SegmentOfPipe_v0 m10 dl14 dl24 x31).length : Nat) : Int) : Int)
    ·refine Fq (.bool true) (r_lss (m := (i : Int)) (n := (((SegmentOfPipe_v0 m10 dl14 dl24 x31).length : Nat) : Int)) rfl ek ek (decide_eq_true q557)) ?_
     refine F.es ?_
     refine h56 _ _ ?_
     refine wp_cond_true ek ?_
     refine wp_skip ?_
     refine h55 _ _ ?_
     refine wk fun K57 h57 => ?_
     refine wp_block ?_
     refine wk fun K58 h58 => ?_
     refine W.region_sch (row := none) (Sch.of [(0, false), (1, false), (2, false), (3, false), (4, false), (5, false), (6, true), (7, false), (8, false), (9, false), (10, false), (11, false), (12, false), (13, false)]) kk kk (fun _ d _ _ _ h => by cases d <;> exact h) kk (fun w558 e559 s560 => ?_)
     refine Fq (.agg #[.int .i64 m10, .slice A11 n12 c13]) (r_load2 rfl ek kk kk (sgS (blk_cell (j := 0) x48 kk) (Option.some_ne_none _)) (sgS (blk_cell (j := 1) x48 kk) (Option.some_ne_none _))) ?_
     refine Fv (.slice A21 n22 c23) ?_
     refine Fv (.slice A55 ((SegmentOfPipe_v0 m10 dl14 dl24 x31).length) d56) ?_
     refine Fv (.int .i64 (i : Int)) ?_
     obtain ⟨x561, hx562⟩ := get_of (zs := (SegmentOfPipe_v0 m10 dl14 dl24 x31)) (k := i) (by have := hl60; omega)
     obtain ⟨b563, o564, hA565, hb566, hc567⟩ := Rd.elInt kl0_1 hx562
     refine Fq (.pointer (some ⟨b563, o564 + i, none⟩)) (r_idx1 (n := (SegmentOfPipe_v0 m10 dl14 dl24 x31).length) (c := d56) (k := i) rfl ek hA565 kk kk (by have := hl60; omega)) ?_
     refine Fl (.int .i64 x561) (sgS hc567 (by simp)) ?_
     have hsi := seg_in hx562
     have hc569 := SegmentOfNode_impl m10 A11 n12 c13 dl14 A21 n22 c23 dl24 x561 w558 (Rd.kept kl0_3 (SG.below s560)) (Rd.kept kl0_0 (SG.below s560)) (by omega) (by omega) fm16 fm26
     rw [hsi.2.1, hsi.2.2, hsi.1] at hc569
     refine Fc [.agg #[.int .i64 m10, .slice A11 n12 c13], .slice A21 n22 c23, .int .i64 x561] (hc569) ?_
     rintro e w585 ⟨A570, d571, A577, d578, rfl, r572, r579, nr568, b584⟩
     have s586 := SG.of_below s560 b584
     refine ⟨_, rfl, s586, ?_⟩
     refine F.nx ?_
     have rd573 := own_rd r572
     have hl575 : (SegmentOfPipe_v0 m10 dl14 dl24 x31).length = (SegmentOfPipe_v0 m10 dl14 dl24 x31).length := rfl
     have rd580 := own_rd r579
     have hl582 : (SegmentOfPipe_v1 m10 dl14 dl24 x31).length = (SegmentOfPipe_v1 m10 dl14 dl24 x31).length := rfl
     refine Fv (.tuple #[.slice A570 ((SegmentOfPipe_v0 m10 dl14 dl24 x31).length) d571, .slice A577 ((SegmentOfPipe_v1 m10 dl14 dl24 x31).length) d578, .bool true]) ?_
     refine Fq (.slice A570 ((SegmentOfPipe_v0 m10 dl14 dl24 x31).length) d571) (r_extract (vs := #[.slice A570 ((SegmentOfPipe_v0 m10 dl14 dl24 x31).length) d571, .slice A577 ((SegmentOfPipe_v1 m10 dl14 dl24 x31).length) d578, .bool true]) rfl ek kk) ?_
     refine Fq (.slice A577 ((SegmentOfPipe_v1 m10 dl14 dl24 x31).length) d578) (r_extract (vs := #[.slice A570 ((SegmentOfPipe_v0 m10 dl14 dl24 x31).length) d571, .slice A577 ((SegmentOfPipe_v1 m10 dl14 dl24 x31).length) d578, .bool true]) rfl ek kk) ?_
     refine Fq (.bool true) (r_extract (vs := #[.slice A570 ((SegmentOfPipe_v0 m10 dl14 dl24 x31).length) d571, .slice A577 ((SegmentOfPipe_v1 m10 dl14 dl24 x31).length) d578, .bool true]) rfl ek kk) ?_
     refine Fa (.slice A570 ((SegmentOfPipe_v0 m10 dl14 dl24 x31).length) d571) ?_
     refine Fa (.slice A577 ((SegmentOfPipe_v1 m10 dl14 dl24 x31).length) d578) ?_
     refine Fa (.bool true) ?_
     refine F.es ?_
     have x48 := SG.blk s586 x48 (Option.some_ne_none _)
     have c587 := (SG.belowR c556 s586 (fun kq e => by cases e))
     have rd588 := Rd.kept kl0_3 (SG.below s586)
     have rd589 := Rd.kept kl0_0 (SG.below s586)
     have rd590 := Rd.kept kl0_1 (SG.below s586)
     have rd591 := Rd.kept kl0_2 (SG.below s586)
     refine h58 _ _ ?_
     as_aux_lemma =>
      refine wk fun K59 h59 => ?_
      refine W.region_plain (row := none) [(0, false), (1, false), (2, false), (3, false), (4, false), (5, true), (6, false), (7, false), (8, false), (9, false), (10, false), (11, true), (12, false), (13, false)] kk ?_
      have s592 := SG.self w585 none
      refine Fv (.bool true) ?_
      refine Fq (.bool false) (r_not (b := true) rfl ek rfl) ?_
      refine Fv (.bool false) ?_
      refine Fv (.slice A570 ((SegmentOfPipe_v0 m10 dl14 dl24 x31).length) d571) ?_
      refine Fv (.slice A55 ((SegmentOfPipe_v0 m10 dl14 dl24 x31).length) d56) ?_
      refine Fc [.slice A570 ((SegmentOfPipe_v0 m10 dl14 dl24 x31).length) d571, .slice A55 ((SegmentOfPipe_v0 m10 dl14 dl24 x31).length) d56] (vInts_same A570 A55 ((SegmentOfPipe_v0 m10 dl14 dl24 x31).length) d571 d56 (SegmentOfPipe_v0 m10 dl14 dl24 x31) _ (Rd.kept rd573 (SG.below s592)) (Rd.kept rd590 (SG.below s592)) (by omega)) ?_
      rintro e w594 ⟨rfl, b593⟩
      have s595 := SG.of_below s592 b593
      refine ⟨_, rfl, s595, ?_⟩
      refine F.nx ?_
      refine Fq (.bool false) (r_not (b := true) rfl ek rfl) ?_
      refine Fq (.bool false) (r_pick (b := false) rfl ek ek) ?_
      refine Fv (.bool false) ?_
      refine Fv (.slice A577 ((SegmentOfPipe_v1 m10 dl14 dl24 x31).length) d578) ?_
      refine Fv (.slice A62 ((SegmentOfPipe_v1 m10 dl14 dl24 x31).length) d63) ?_
      refine Fc [.slice A577 ((SegmentOfPipe_v1 m10 dl14 dl24 x31).length) d578, .slice A62 ((SegmentOfPipe_v1 m10 dl14 dl24 x31).length) d63] (vInts_same A577 A62 ((SegmentOfPipe_v1 m10 dl14 dl24 x31).length) d578 d63 (SegmentOfPipe_v1 m10 dl14 dl24 x31) _ (Rd.kept rd580 (SG.below s595)) (Rd.kept rd591 (SG.below s595)) (by omega)) ?_
      rintro e w597 ⟨rfl, b596⟩
      have s598 := SG.of_below s595 b596
      refine ⟨_, rfl, s598, ?_⟩
      refine F.nx ?_
      refine Fq (.bool false) (r_not (b := true) rfl ek rfl) ?_
      refine Fq (.bool false) (r_pick (b := false) rfl ek ek) ?_
      refine F.es ?_
      have x48 := SG.blk s598 x48 (Option.some_ne_none _)
      have c599 := (SG.belowR c587 s598 (fun kq e => by cases e))
      have rd600 := Rd.kept rd588 (SG.below s598)
      have rd601 := Rd.kept rd589 (SG.below s598)
      have rd602 := Rd.kept rd590 (SG.below s598)
      have rd603 := Rd.kept rd591 (SG.below s598)
      refine h59 _ _ ?_
      refine wp_cond_false ek ?_
      refine wp_skip ?_
      refine h57 _ _ ?_
      refine W.region_quiet [(0, false), (1, false), (2, false)] kk ?_
      refine Fv (.int .i64 (i : Int)) ?_
      refine Fq (.int .i64 ((i + 1 : Nat) : Int)) (r_add (m := (i : Int)) (n := 1) (z := ((i + 1 : Nat) : Int)) rfl ek ek (by omega) (by omega)) ?_
      refine Fa (.int .i64 ((i + 1 : Nat) : Int)) ?_
      refine F.es ?_
      exact h54 _ _ _ (by omega : ((SegmentOfPipe_v0 m10 dl14 dl24 x31).length - (i + 1)) < _) ⟨i + 1, Kn.of, rfl, (by omega), x48, rd601, rd602, rd603, rd600, c599⟩
    refine Fq (.bool false) (r_lss (m := (i : Int)) (n := (((SegmentOfPipe_v0 m10 dl14 dl24 x31).length : Nat) : Int)) rfl ek ek (decide_eq_false q557)) ?_
    refine F.es ?_
    refine h56 _ _ ?_
    refine wp_cond_false ek ?_
    refine wp_exit ?_
    refine h52 _ _ ?_
    refine joinK (fun amj3 aaj3 wlj3 => Kn aaj3 [(0, .slice A n c), (2, .bool false)] 273 ∧ (amj3 = 0) ∧ (Below w.heap.size w wlj3)) ?_ ?_
    ·rintro amj3 aaj3 wlj3 ⟨⟨Uj3, rfl⟩, rfl, c606⟩
     refine wk fun K60 h60 => ?_
     refine W.region_plain (row := none) [(0, false), (1, true), (2, false), (3, false), (4, false), (5, false), (6, true), (7, true), (8, false), (9, false)] kk ?_
     have s607 := SG.self wlj3 none
     refine Fv (.slice A n c) ?_
     have z608 := ((SG.belowR c606 s607 (fun kq e => by cases e))).size
     refine Fc [.slice A n c] (DrawSegmentOfNode_any A n c zs _ (Rd.kept hcode (SG.belowR c606 s607 (fun kq e => by cases e))) hz (by have h9 := of_decide_eq_false q5; omega)) ?_
     rintro e w632 ⟨m609, A610, n611, c612, dl613, A620, n621, c622, dl623, x630, rfl, ⟨⟨rd614, fm615, fr619⟩, hsm616⟩, ⟨⟨rd624, fm625, fr629⟩, hsm626⟩, b631⟩
     have s633 := SG.of_below s607 b631
     refine ⟨_, rfl, s633, ?_⟩
     refine F.nx ?_
     have hl617 := rd_pipes_len rd614
     have hsm616m := hsm616.1
     have hsm616n := hsm616.2.1
     have hl627 := rd_valves_len rd624
     refine Fv (.tuple #[.agg #[.int .i64 m609, .slice A610 n611 c612], .slice A620 n621 c622, .int .i64 x630]) ?_
     refine Fq (.agg #[.int .i64 m609, .slice A610 n611 c612]) (r_extract (vs := #[.agg #[.int .i64 m609, .slice A610 n611 c612], .slice A620 n621 c622, .int .i64 x630]) rfl ek kk) ?_
     refine Fq (.slice A620 n621 c622) (r_extract (vs := #[.agg #[.int .i64 m609, .slice A610 n611 c612], .slice A620 n621 c622, .int .i64 x630]) rfl ek kk) ?_
     refine Fq (.int .i64 x630) (r_extract (vs := #[.agg #[.int .i64 m609, .slice A610 n611 c612], .slice A620 n621 c622, .int .i64 x630]) rfl ek kk) ?_
     refine W.sn (fun b => .pointer (some ⟨b, 0, none⟩)) #[.int .i64 0, .slice none 0 0] 26 s633 rfl kk rfl (fun _ => by kernel_rfl) (fun b634 w635 hb636 k637 x638 s639 => ?_)
     refine F.nx ?_
     have lo640 : w.heap.size ≤ b634 := Nat.le_trans ((SG.belowR c606 s633 (fun kq e => by cases e))).size (Nat.le_of_eq hb636)
     have sp641 : Sp A610 n611 (some b634) := sp_new rd614 (by have := hb636; omega)
     have sp642 : Sp A620 n621 (some b634) := sp_new rd624 (by have := hb636; omega)
     have rd643 := Rd.kept rd614 k637
     have rd644 := Rd.kept rd624 k637
     refine W.ss (v := .agg #[.int .i64 m609, .slice A610 n611 c612]) (j := 0) (news := [.int .i64 m609, .slice A610 n611 c612]) (cs' := #[.int .i64 m609, .slice A610 n611 c612]) s639 rfl kk rfl rfl kk kk x638 kk kk (by simp) kk kk (.inr (Nat.le_trans (s633).size (Nat.le_of_eq hb636))) (fun w645 g646 x647 s648 => ?_)
     have rd649 := rd_sepG rd643 g646 sp641
     have rd650 := rd_sepG rd644 g646 sp642
     refine Fa (.slice A620 n621 c622) ?_
     refine Fa (.int .i64 x630) ?_
     refine F.es ?_
     have c651 := (SG.belowR c606 s648 (fun kq e => by cases e))
     refine h60 _ _ ?_
     as_aux_lemma =>
      refine wk fun K61 h61 => ?_
      refine W.region_plain (row := none) [(0, false), (1, false), (2, false), (3, true), (4, false), (5, false), (6, false), (7, false), (8, false), (9, false), (10, false)] kk ?_
      have s652 := SG.self w645 none
      refine Fq (.agg #[.int .i64 m609, .slice A610 n611 c612]) (r_load2 rfl ek kk kk (sgS (blk_cell (j := 0) x647 kk) (Option.some_ne_none _)) (sgS (blk_cell (j := 1) x647 kk) (Option.some_ne_none _))) ?_
      refine Fv (.slice A620 n621 c622) ?_
      refine Fv (.int .i64 x630) ?_
      refine Fc [.agg #[.int .i64 m609, .slice A610 n611 c612], .slice A620 n621 c622, .int .i64 x630] (SegmentOfNode_impl m609 A610 n611 c612 dl613 A620 n621 c622 dl623 x630 w645 (Rd.kept rd649 (SG.below s652)) (Rd.kept rd650 (SG.below s652)) (by omega) (by omega) fm615 fm625) ?_
      rintro e w669 ⟨A654, d655, A661, d662, rfl, r656, r663, nr653, b668⟩
      have s670 := SG.of_below s652 b668
      refine ⟨_, rfl, s670, ?_⟩
      refine F.nx ?_
      have rd657 := own_rd r656
      have hl659 : (SegmentOfNode_v0 m609 dl613 dl623 x630).length = (SegmentOfNode_v0 m609 dl613 dl623 x630).length := rfl
      have rd664 := own_rd r663
      have hl666 : (SegmentOfNode_v1 m609 dl613 dl623 x630).length = (SegmentOfNode_v1 m609 dl613 dl623 x630).length := rfl
      have hb671 := SegmentOfNode_len m609 dl613 dl623 x630
      have hb672 := SegmentOfNode_len1 m609 dl613 dl623 x630
      refine Fv (.tuple #[.slice A654 ((SegmentOfNode_v0 m609 dl613 dl623 x630).length) d655, .slice A661 ((SegmentOfNode_v1 m609 dl613 dl623 x630).length) d662, .bool (SegmentOfNode_v2 m609 dl613 dl623 x630)]) ?_
      refine Fq (.slice A654 ((SegmentOfNode_v0 m609 dl613 dl623 x630).length) d655) (r_extract (vs := #[.slice A654 ((SegmentOfNode_v0 m609 dl613 dl623 x630).length) d655, .slice A661 ((SegmentOfNode_v1 m609 dl613 dl623 x630).length) d662, .bool (SegmentOfNode_v2 m609 dl613 dl623 x630)]) rfl ek kk) ?_
      refine Fq (.slice A661 ((SegmentOfNode_v1 m609 dl613 dl623 x630).length) d662) (r_extract (vs := #[.slice A654 ((SegmentOfNode_v0 m609 dl613 dl623 x630).length) d655, .slice A661 ((SegmentOfNode_v1 m609 dl613 dl623 x630).length) d662, .bool (SegmentOfNode_v2 m609 dl613 dl623 x630)]) rfl ek kk) ?_
      refine Fq (.bool (SegmentOfNode_v2 m609 dl613 dl623 x630)) (r_extract (vs := #[.slice A654 ((SegmentOfNode_v0 m609 dl613 dl623 x630).length) d655, .slice A661 ((SegmentOfNode_v1 m609 dl613 dl623 x630).length) d662, .bool (SegmentOfNode_v2 m609 dl613 dl623 x630)]) rfl ek kk) ?_
      refine Fa (.slice A654 ((SegmentOfNode_v0 m609 dl613 dl623 x630).length) d655) ?_
      refine Fa (.slice A661 ((SegmentOfNode_v1 m609 dl613 dl623 x630).length) d662) ?_
      refine Fa (.bool (SegmentOfNode_v2 m609 dl613 dl623 x630)) ?_
      refine F.es ?_
      have x647 := SG.blk s670 x647 (Option.some_ne_none _)
      have c673 := (SG.belowR c651 s670 (fun kq e => by cases e))
      have rd674 := Rd.kept rd649 (SG.below s670)
      have rd675 := Rd.kept rd650 (SG.below s670)
      refine h61 _ _ ?_
      refine wk fun K62 h62 => ?_
      refine W.region_plain (row := none) [(0, false), (1, false), (2, false), (3, true), (4, false), (5, false), (6, false), (7, false), (8, false), (9, false), (10, false)] kk ?_
      have s676 := SG.self w669 none
      refine Fq (.agg #[.int .i64 m609, .slice A610 n611 c612]) (r_load2 rfl ek kk kk (sgS (blk_cell (j := 0) x647 kk) (Option.some_ne_none _)) (sgS (blk_cell (j := 1) x647 kk) (Option.some_ne_none _))) ?_
      refine Fv (.slice A620 n621 c622) ?_
      refine Fv (.int .i64 x630) ?_
      refine Fc [.agg #[.int .i64 m609, .slice A610 n611 c612], .slice A620 n621 c622, .int .i64 x630] (SegmentOfNode_spec m609 A610 n611 c612 dl613 A620 n621 c622 dl623 x630 w669 (Rd.kept rd674 (SG.below s676)) (Rd.kept rd675 (SG.below s676)) (by omega) (by omega) fm615 fm625) ?_
      rintro e w692 ⟨A677, d678, A684, d685, rfl, r679, r686, b691⟩
      have s693 := SG.of_below s676 b691
      refine ⟨_, rfl, s693, ?_⟩
      refine F.nx ?_
      have hl682 : (SegmentOfNode_v0 m609 dl613 dl623 x630).length = (SegmentOfNode_v0 m609 dl613 dl623 x630).length := rfl
      have hl689 : (SegmentOfNode_v1 m609 dl613 dl623 x630).length = (SegmentOfNode_v1 m609 dl613 dl623 x630).length := rfl
      refine Fv (.tuple #[.slice A677 ((SegmentOfNode_v0 m609 dl613 dl623 x630).length) d678, .slice A684 ((SegmentOfNode_v1 m609 dl613 dl623 x630).length) d685, .bool (SegmentOfNode_v2 m609 dl613 dl623 x630)]) ?_
      refine Fq (.slice A677 ((SegmentOfNode_v0 m609 dl613 dl623 x630).length) d678) (r_extract (vs := #[.slice A677 ((SegmentOfNode_v0 m609 dl613 dl623 x630).length) d678, .slice A684 ((SegmentOfNode_v1 m609 dl613 dl623 x630).length) d685, .bool (SegmentOfNode_v2 m609 dl613 dl623 x630)]) rfl ek kk) ?_
      refine Fq (.slice A684 ((SegmentOfNode_v1 m609 dl613 dl623 x630).length) d685) (r_extract (vs := #[.slice A677 ((SegmentOfNode_v0 m609 dl613 dl623 x630).length) d678, .slice A684 ((SegmentOfNode_v1 m609 dl613 dl623 x630).length) d685, .bool (SegmentOfNode_v2 m609 dl613 dl623 x630)]) rfl ek kk) ?_
      refine Fq (.bool (SegmentOfNode_v2 m609 dl613 dl623 x630)) (r_extract (vs := #[.slice A677 ((SegmentOfNode_v0 m609 dl613 dl623 x630).length) d678, .slice A684 ((SegmentOfNode_v1 m609 dl613 dl623 x630).length) d685, .bool (SegmentOfNode_v2 m609 dl613 dl623 x630)]) rfl ek kk) ?_
      refine Fa (.slice A677 ((SegmentOfNode_v0 m609 dl613 dl623 x630).length) d678) ?_
      refine Fa (.slice A684 ((SegmentOfNode_v1 m609 dl613 dl623 x630).length) d685) ?_
      refine Fa (.bool (SegmentOfNode_v2 m609 dl613 dl623 x630)) ?_
      refine F.es ?_
      have c694 := (SG.belowR c673 s693 (fun kq e => by cases e))
      have rd697 := Rd.kept rd657 (SG.below s693)
      have rd698 := Rd.kept rd664 (SG.below s693)
      refine h62 _ _ ?_
      refine wk fun K63 h63 => ?_
      refine W.region_plain (row := none) [(0, false), (1, false), (2, false), (3, false), (4, false), (5, false), (6, true), (7, false), (8, false), (9, false), (10, false), (11, true), (12, false), (13, false), (14, false), (15, false), (16, false), (17, false), (18, false), (19, true), (20, false), (21, false), (22, false)] kk ?_
      have s699 := SG.self w692 none
      refine Fv (.bool (SegmentOfNode_v2 m609 dl613 dl623 x630)) ?_
      refine Fv (.bool (SegmentOfNode_v2 m609 dl613 dl623 x630)) ?_
      refine Fq (.bool true) (r_eqlB (m := (SegmentOfNode_v2 m609 dl613 dl623 x630)) (n := (SegmentOfNode_v2 m609 dl613 dl623 x630)) rfl ek ek kk (beq_iff_eq.2 rfl)) ?_
      refine Fv (.bool true) ?_
      refine Fv (.slice A654 ((SegmentOfNode_v0 m609 dl613 dl623 x630).length) d655) ?_
      refine Fv (.slice A677 ((SegmentOfNode_v0 m609 dl613 dl623 x630).length) d678) ?_
      refine Fc [.slice A654 ((SegmentOfNode_v0 m609 dl613 dl623 x630).length) d655, .slice A677 ((SegmentOfNode_v0 m609 dl613 dl623 x630).length) d678] (vInts_same A654 A677 ((SegmentOfNode_v0 m609 dl613 dl623 x630).length) d655 d678 (SegmentOfNode_v0 m609 dl613 dl623 x630) _ (Rd.kept rd697 (SG.below s699)) (Rd.kept r679 (SG.below s699)) (by omega)) ?_
      rintro e w701 ⟨rfl, b700⟩
      have s702 := SG.of_below s699 b700
      refine ⟨_, rfl, s702, ?_⟩
      refine F.nx ?_
      refine Fq (.bool true) (r_pick (b := true) rfl ek ek) ?_
      refine Fv (.bool true) ?_
      refine Fv (.slice A661 ((SegmentOfNode_v1 m609 dl613 dl623 x630).length) d662) ?_
      refine Fv (.slice A684 ((SegmentOfNode_v1 m609 dl613 dl623 x630).length) d685) ?_
      refine Fc [.slice A661 ((SegmentOfNode_v1 m609 dl613 dl623 x630).length) d662, .slice A684 ((SegmentOfNode_v1 m609 dl613 dl623 x630).length) d685] (vInts_same A661 A684 ((SegmentOfNode_v1 m609 dl613 dl623 x630).length) d662 d685 (SegmentOfNode_v1 m609 dl613 dl623 x630) _ (Rd.kept rd698 (SG.below s702)) (Rd.kept r686 (SG.below s702)) (by omega)) ?_
      rintro e w704 ⟨rfl, b703⟩
      have s705 := SG.of_below s702 b703
      refine ⟨_, rfl, s705, ?_⟩
      refine F.nx ?_
      refine Fq (.bool true) (r_pick (b := true) rfl ek ek) ?_
      refine Fv (.bool true) ?_
      refine Fv (.bool (SegmentOfNode_v2 m609 dl613 dl623 x630)) ?_
      rcases Bool.eq_false_or_eq_true (SegmentOfNode_v2 m609 dl613 dl623 x630) with q706 | q706
      ·rw [q706]
       refine Fq (.bool false) (r_not (b := true) rfl ek rfl) ?_
       refine Fv (.bool false) ?_
       refine Fv (.slice A654 ((SegmentOfNode_v0 m609 dl613 dl623 x630).length) d655) ?_
       refine Fv (.int .i64 x630) ?_
       refine Fc [.slice A654 ((SegmentOfNode_v0 m609 dl613 dl623 x630).length) d655, .int .i64 x630] (vHas_any A654 ((SegmentOfNode_v0 m609 dl613 dl623 x630).length) d655 (SegmentOfNode_v0 m609 dl613 dl623 x630) x630 _ (Rd.kept rd697 (SG.below s705)) (by omega)) ?_
       rintro e w708 ⟨rfl, b707⟩
       have s709 := SG.of_below s705 b707
       refine ⟨_, rfl, s709, ?_⟩
       refine F.nx ?_
       have q710 : ((SegmentOfNode_v0 m609 dl613 dl623 x630).contains x630) = true := seg_has q706
       rw [q710]
       refine Fq (.bool true) (r_pick (b := false) rfl ek ek) ?_
       refine Fq (.bool true) (r_pick (b := true) rfl ek ek) ?_
       refine Fa (.bool true) ?_
       refine F.es ?_
       have c711 := (SG.belowR c694 s709 (fun kq e => by cases e))
       refine h63 _ _ ?_
       as_aux_lemma =>
        refine wp_ret ?_
        try simp only [Exit.then]
        refine ret1 (v := .bool true) rfl kk ?_
        exact ⟨rfl, c711⟩
      rw [q706]
      refine Fq (.bool true) (r_not (b := false) rfl ek rfl) ?_
      refine Fv (.bool true) ?_
      refine Fs s705 ?_
      refine Fs s705 ?_
      refine Fs s705 ?_
      refine Fq (.bool true) (r_pick (b := true) rfl ek ek) ?_
      refine Fq (.bool true) (r_pick (b := true) rfl ek ek) ?_
      refine Fa (.bool true) ?_
      refine F.es ?_
      have c718 := (SG.belowR c694 s705 (fun kq e => by cases e))
      refine h63 _ _ ?_
      refine wp_ret ?_
      try simp only [Exit.then]
      refine ret1 (v := .bool true) rfl kk ?_
      exact ⟨rfl, c718⟩
    intro K64 h64
    refine wk fun K65 h65 => ?_
    refine W.region_quiet [(0, false)] kk ?_
    refine Fv (.bool (SegmentOfPipe_v2 m10 dl14 dl24 x31)) ?_
    refine F.es ?_
    refine h65 _ _ ?_
    rcases Bool.eq_false_or_eq_true (SegmentOfPipe_v2 m10 dl14 dl24 x31) with q725 | q725
    ·rw [q725]
     refine wp_cond_true ek ?_
     refine wk fun K66 h66 => ?_
     refine W.region_plain (row := none) [(0, false), (1, false), (2, false), (3, true), (4, false), (5, false), (6, false), (7, false), (8, false)] kk ?_
     have s726 := SG.self wl0 none
     refine Fq (.agg #[.int .i64 m10, .slice A11 n12 c13]) (r_load2 rfl ek kk kk (sgS (blk_cell (j := 0) x48 kk) (Option.some_ne_none _)) (sgS (blk_cell (j := 1) x48 kk) (Option.some_ne_none _))) ?_
     refine Fv (.slice A21 n22 c23) ?_
     refine Fv (.int .i64 x31) ?_
     refine Fc [.agg #[.int .i64 m10, .slice A11 n12 c13], .slice A21 n22 c23, .int .i64 x31] (ValvesAround_impl m10 A11 n12 c13 dl14 A21 n22 c23 dl24 x31 wl0 (Rd.kept kl0_3 (SG.below s726)) (Rd.kept kl0_0 (SG.below s726)) (by omega) (by omega) fm16 fm26) ?_
     rintro e w735 ⟨A727, d728, rfl, r729, b734⟩
     have s736 := SG.of_below s726 b734
     refine ⟨_, rfl, s736, ?_⟩
     refine F.nx ?_
     have rd730 := own_rd r729
     have hl732 : (ValvesAround_v0 m10 dl14 dl24 x31).length = (ValvesAround_v0 m10 dl14 dl24 x31).length := rfl
     have hb737 := ValvesAround_len m10 dl14 dl24 x31
     refine Fv (.tuple #[.slice A727 ((ValvesAround_v0 m10 dl14 dl24 x31).length) d728, .bool (ValvesAround_v1 m10 dl14 dl24 x31)]) ?_
     refine Fq (.slice A727 ((ValvesAround_v0 m10 dl14 dl24 x31).length) d728) (r_extract (vs := #[.slice A727 ((ValvesAround_v0 m10 dl14 dl24 x31).length) d728, .bool (ValvesAround_v1 m10 dl14 dl24 x31)]) rfl ek kk) ?_
     refine Fq (.bool (ValvesAround_v1 m10 dl14 dl24 x31)) (r_extract (vs := #[.slice A727 ((ValvesAround_v0 m10 dl14 dl24 x31).length) d728, .bool (ValvesAround_v1 m10 dl14 dl24 x31)]) rfl ek kk) ?_
     refine Fa (.slice A727 ((ValvesAround_v0 m10 dl14 dl24 x31).length) d728) ?_
     refine Fa (.bool (ValvesAround_v1 m10 dl14 dl24 x31)) ?_
     refine F.es ?_
     have x48 := SG.blk s736 x48 (Option.some_ne_none _)
     have c738 := (SG.belowR c556 s736 (fun kq e => by cases e))
     have rd739 := Rd.kept kl0_3 (SG.below s736)
     have rd740 := Rd.kept kl0_0 (SG.below s736)
     have rd741 := Rd.kept kl0_1 (SG.below s736)
     refine h66 _ _ ?_
     as_aux_lemma =>
      refine wk fun K67 h67 => ?_
      refine wk fun K68 h68 => ?_
      refine W.region_plain (row := none) [(0, false), (1, false), (2, false), (3, true), (4, false), (5, false), (6, false), (7, false), (8, false)] kk ?_
      have s743 := SG.self w735 none
      refine Fq (.agg #[.int .i64 m10, .slice A11 n12 c13]) (r_load2 rfl ek kk kk (sgS (blk_cell (j := 0) x48 kk) (Option.some_ne_none _)) (sgS (blk_cell (j := 1) x48 kk) (Option.some_ne_none _))) ?_
      refine Fv (.slice A21 n22 c23) ?_
      refine Fv (.int .i64 x31) ?_
      refine Fc [.agg #[.int .i64 m10, .slice A11 n12 c13], .slice A21 n22 c23, .int .i64 x31] (ValvesAround_spec m10 A11 n12 c13 dl14 A21 n22 c23 dl24 x31 w735 (Rd.kept rd739 (SG.below s743)) (Rd.kept rd740 (SG.below s743)) (by omega) (by omega) fm16 fm26) ?_
      rintro e w752 ⟨A744, d745, rfl, r746, b751⟩
      have s753 := SG.of_below s743 b751
      refine ⟨_, rfl, s753, ?_⟩
      refine F.nx ?_
      have hl749 : (ValvesAround_v0 m10 dl14 dl24 x31).length = (ValvesAround_v0 m10 dl14 dl24 x31).length := rfl
      refine Fv (.tuple #[.slice A744 ((ValvesAround_v0 m10 dl14 dl24 x31).length) d745, .bool (ValvesAround_v1 m10 dl14 dl24 x31)]) ?_
      refine Fq (.slice A744 ((ValvesAround_v0 m10 dl14 dl24 x31).length) d745) (r_extract (vs := #[.slice A744 ((ValvesAround_v0 m10 dl14 dl24 x31).length) d745, .bool (ValvesAround_v1 m10 dl14 dl24 x31)]) rfl ek kk) ?_
      refine Fq (.bool (ValvesAround_v1 m10 dl14 dl24 x31)) (r_extract (vs := #[.slice A744 ((ValvesAround_v0 m10 dl14 dl24 x31).length) d745, .bool (ValvesAround_v1 m10 dl14 dl24 x31)]) rfl ek kk) ?_
      refine Fa (.slice A744 ((ValvesAround_v0 m10 dl14 dl24 x31).length) d745) ?_
      refine Fa (.bool (ValvesAround_v1 m10 dl14 dl24 x31)) ?_
      refine F.es ?_
      have x48 := SG.blk s753 x48 (Option.some_ne_none _)
      have c754 := (SG.belowR c738 s753 (fun kq e => by cases e))
      have rd755 := Rd.kept rd739 (SG.below s753)
      have rd756 := Rd.kept rd740 (SG.below s753)
      have rd757 := Rd.kept rd741 (SG.below s753)
      have rd759 := Rd.kept rd730 (SG.below s753)
      refine h68 _ _ ?_
      refine wk fun K69 h69 => ?_
      refine W.region_plain (row := none) [(0, false), (1, false), (2, false), (3, false), (4, false), (5, true), (6, false), (7, false)] kk ?_
      have s760 := SG.self w752 none
      refine Fv (.bool (ValvesAround_v1 m10 dl14 dl24 x31)) ?_
      have q761 : (ValvesAround_v1 m10 dl14 dl24 x31) = true := q725
      rw [q761]
      refine Fq (.bool false) (r_not (b := true) rfl ek rfl) ?_
      refine Fv (.bool false) ?_
      refine Fv (.slice A727 ((ValvesAround_v0 m10 dl14 dl24 x31).length) d728) ?_
      refine Fv (.slice A744 ((ValvesAround_v0 m10 dl14 dl24 x31).length) d745) ?_
      refine Fc [.slice A727 ((ValvesAround_v0 m10 dl14 dl24 x31).length) d728, .slice A744 ((ValvesAround_v0 m10 dl14 dl24 x31).length) d745] (vInts_same A727 A744 ((ValvesAround_v0 m10 dl14 dl24 x31).length) d728 d745 (ValvesAround_v0 m10 dl14 dl24 x31) _ (Rd.kept rd759 (SG.below s760)) (Rd.kept r746 (SG.below s760)) (by omega)) ?_
      rintro e w763 ⟨rfl, b762⟩
      have s764 := SG.of_below s760 b762
      refine ⟨_, rfl, s764, ?_⟩
      refine F.nx ?_
      refine Fq (.bool false) (r_not (b := true) rfl ek rfl) ?_
      refine Fq (.bool false) (r_pick (b := false) rfl ek ek) ?_
      refine F.es ?_
      have x48 := SG.blk s764 x48 (Option.some_ne_none _)
      have c765 := (SG.belowR c754 s764 (fun kq e => by cases e))
      have rd766 := Rd.kept rd755 (SG.below s764)
      have rd767 := Rd.kept rd756 (SG.below s764)
      have rd768 := Rd.kept rd757 (SG.below s764)
      have rd770 := Rd.kept rd759 (SG.below s764)
      refine h69 _ _ ?_
      refine wp_cond_false ek ?_
      refine wp_skip ?_
      refine h67 _ _ ?_
      refine wk fun K70 h70 => ?_
      refine W.region_plain (row := none) [(0, true), (1, false), (2, true), (3, false)] kk ?_
      have s772 := SG.self w763 none
      refine W.sn (fun b => .slice (some ⟨b, 0, none⟩) 0 0) #[] 40 s772 rfl kk rfl (fun _ => by kernel_rfl) (fun b773 w774 hb775 k776 x777 s778 => ?_)
      refine F.nx ?_
      have lo779 : w.heap.size ≤ b773 := Nat.le_trans ((SG.belowR c765 s772 (fun kq e => by cases e))).size (Nat.le_of_eq hb775)
      refine Fv (.slice A21 n22 c23) ?_
      have ho787 := own_empty (base := w.heap.size) (size := 4) x777 lo779
      replace ho787 : World.ownsRow _ _ _ _ _ _ (valvesV []) := ho787
      replace ho787 : World.ownsRow _ _ _ _ _ _ (valvesV []) := ho787
      refine W.sapR (e := 40) (size := 4) (base := w.heap.size) (v := .slice (some ⟨b773, 0, none⟩) 0 0) (A := A21) (m := n22) (c := c23) s778 rfl rfl rfl rfl kk kk kk ho787 (Rd.kept rd767 (SG.below s778)) fm26 (valves_one _) (by omega) (by have := ((SG.belowR c765 s778 (fun kq e => by cases e))).size; omega) (.inr (fun kq e => by have := (s772).size; have := hb775; have e' := Option.some.inj e; simp at e'; omega)) (fun A795 cap796 w797 ho798 hg799 hat800 s801 => ?_)
      refine F.nx ?_
      have ho798 := own_joinV ho798
      have fr809 : ∀ kq, (.slice A795 (0 + n22) cap796 : Value).ownBlock = some kq → w763.heap.size ≤ kq := fun kq e => by
        have hs := (s778).size
        rcases hat800 with h | h
        · exact (show ∀ kq, Value.ownBlock _ = some kq → w763.heap.size ≤ kq from (fun kq e => by have := (s772).size; have := hb775; have e' := Option.some.inj e; simp at e'; omega)) kq (h.symm.trans e)
        · have := Option.some.inj (h.symm.trans e); omega
      replace ho798 : World.ownsRow _ _ _ _ _ _ (valvesV dl24) := ho798
      refine Fa (.slice A795 (0 + n22) cap796) ?_
      refine F.es ?_
      have x48 := SG.blk s801 x48 (Option.some_ne_none _)
      have c810 := (SG.belowR c765 s801 (fun kq e => by cases e))
      have rd811 := Rd.kept rd766 (SG.below s801)
      have rd813 := Rd.kept rd768 (SG.below s801)
      have rd815 := Rd.kept rd770 (SG.below s801)
      refine h70 _ _ ?_
      as_aux_lemma =>
       refine wk fun K71 h71 => ?_
       refine wk fun K72 h72 => ?_
       refine W.region_quiet [(0, false)] kk ?_
       refine Fa (.int .i64 0) ?_
       refine F.es ?_
       refine h72 _ _ ?_
       refine wp_block ?_
       have rd818 := own_rd ho798
       have hl819 := rd_valves_len rd818
       have fm820 := own_fm ho798
       refine loopK (fun am1 aa1 wl1 => ∃ (j : Nat) (A1_20 : Option Addr) (n1_20 : Nat) (c1_20 : Nat) , Kn aa1 [(0, .slice A n c), (2, .bool false), (3, .pointer (some ⟨b35, 0, none⟩)), (5, .int .i64 x31), (6, .slice A55 ((SegmentOfPipe_v0 m10 dl14 dl24 x31).length) d56), (16, .slice A727 ((ValvesAround_v0 m10 dl14 dl24 x31).length) d728), (20, .slice A1_20 n1_20 c1_20), (21, .int .i64 (j : Int))] 273 ∧ (am1 = dl24.length - j) ∧ (j ≤ dl24.length) ∧ (wl1.heap[b35]? = some (.cells #[.int .i64 m10, .slice A11 n12 c13] 26 (0, 0))) ∧ (Fm A1_20 n1_20 c1_20) ∧ (Rd wl1 4 A1_20 n1_20 (valvesV (mixV dl24 (ValvesAround_v0 m10 dl14 dl24 x31) j))) ∧ (Rd wl1 1 A55 ((SegmentOfPipe_v0 m10 dl14 dl24 x31).length) (intsV (SegmentOfPipe_v0 m10 dl14 dl24 x31))) ∧ (Rd wl1 1 A727 ((ValvesAround_v0 m10 dl14 dl24 x31).length) (intsV (ValvesAround_v0 m10 dl14 dl24 x31))) ∧ (Rd wl1 4 A11 n12 (pipesV dl14)) ∧ (Below w.heap.size w wl1)) (dl24.length - 0) ?_ ?_
       ·exact ⟨0, A795, (0 + n22), cap796, Kn.of, rfl, (Nat.zero_le _), x48, fm820, (by rw [mixV_zero dl24 (ValvesAround_v0 m10 dl14 dl24 x31)]; exact rd818), rd813, rd815, rd811, c810⟩
       rintro am1 aa1 wl1 K73 h73 ⟨j, A1_20, n1_20, c1_20, ⟨U1, rfl⟩, rfl, hj, x48, fm1_20, rd1_20, kl1_0, kl1_1, kl1_3, c822⟩
       have hl1_20 := rd_valves_len rd1_20
       have hml := mixV_len dl24 (ValvesAround_v0 m10 dl14 dl24 x31) j
       refine wk fun K74 h74 => ?_
       refine wk fun K75 h75 => ?_
       refine W.region_quiet [(0, false), (1, false), (2, false), (3, false)] kk ?_
       refine Fv (.int .i64 (j : Int)) ?_
       refine Fv (.slice A1_20 n1_20 c1_20) ?_
       refine Fq (.int .i64 (n1_20 : Int)) (r_len (A := A1_20) (n := n1_20) (c := c1_20) rfl ek kk) ?_
       by_cases q823 : ((j : Int) : Int) < ((n1_20 : Int) : Int)
       ·refine Fq (.bool true) (r_lss (m := (j : Int)) (n := (n1_20 : Int)) rfl ek ek (decide_eq_true q823)) ?_
        refine F.es ?_
        refine h75 _ _ ?_
        refine wp_cond_true ek ?_
        refine wp_skip ?_
        refine h74 _ _ ?_
        refine wk fun K76 h76 => ?_
        refine wp_block ?_
        refine wk fun K77 h77 => ?_
        refine W.region_sch (row := none) (Sch.of [(0, false), (1, false), (2, false), (3, false), (4, false), (5, false), (6, false), (7, true), (8, false), (9, false), (10, false), (11, false), (12, false)]) kk kk (fun _ d _ _ _ h => by cases d <;> exact h) kk (fun w824 e825 s826 => ?_)
        refine Fq (.agg #[.int .i64 m10, .slice A11 n12 c13]) (r_load2 rfl ek kk kk (sgS (blk_cell (j := 0) x48 kk) (Option.some_ne_none _)) (sgS (blk_cell (j := 1) x48 kk) (Option.some_ne_none _))) ?_
        refine Fv (.slice A1_20 n1_20 c1_20) ?_
        refine Fv (.slice A1_20 n1_20 c1_20) ?_
        refine Fv (.int .i64 (j : Int)) ?_
        obtain ⟨x827, hx828⟩ := get_of (zs := (mixV dl24 (ValvesAround_v0 m10 dl14 dl24 x31) j)) (k := j) (by have := hl1_20; omega)
        obtain ⟨b829, o830, hA831, hb832, hc833, hc834, hc835, hc836⟩ := Rd.elValve rd1_20 hx828
        refine Fq (.pointer (some ⟨b829, o830 + j * 4, none⟩)) (r_idx (n := n1_20) (c := c1_20) (k := j) rfl ek hA831 kk kk (by have := hl1_20; omega)) ?_
        refine Fq (.pointer (some ⟨b829, o830 + j * 4, none⟩)) (r_field0 rfl ek kk) ?_
        refine Fl (.int .i64 x827.id) (sgS hc833 (by simp)) ?_
        refine Fc [.agg #[.int .i64 m10, .slice A11 n12 c13], .slice A1_20 n1_20 c1_20, .int .i64 x827.id, .bool true] (TurnValve_impl m10 A11 n12 c13 dl14 A1_20 n1_20 c1_20 (mixV dl24 (ValvesAround_v0 m10 dl14 dl24 x31) j) x827.id true w824 (Rd.kept kl1_3 (SG.below s826)) (Rd.kept rd1_20 (SG.below s826)) (by omega) (by omega) fm16 fm1_20) ?_
        rintro e w845 ⟨A837, d838, rfl, r839, b844⟩
        have s846 := SG.of_below s826 b844
        refine ⟨_, rfl, s846, ?_⟩
        refine F.nx ?_
        have rd840 := own_rd r839
        have fm841 := own_fm r839
        have hl842 : (TurnValve_v0 m10 dl14 (mixV dl24 (ValvesAround_v0 m10 dl14 dl24 x31) j) x827.id true).length = (TurnValve_v0 m10 dl14 (mixV dl24 (ValvesAround_v0 m10 dl14 dl24 x31) j) x827.id true).length := rfl
        have hb847 := TurnValve_len m10 dl14 (mixV dl24 (ValvesAround_v0 m10 dl14 dl24 x31) j) x827.id true
        refine Fv (.tuple #[.slice A837 ((TurnValve_v0 m10 dl14 (mixV dl24 (ValvesAround_v0 m10 dl14 dl24 x31) j) x827.id true).length) d838, .bool (TurnValve_v1 m10 dl14 (mixV dl24 (ValvesAround_v0 m10 dl14 dl24 x31) j) x827.id true)]) ?_
        refine Fq (.slice A837 ((TurnValve_v0 m10 dl14 (mixV dl24 (ValvesAround_v0 m10 dl14 dl24 x31) j) x827.id true).length) d838) (r_extract (vs := #[.slice A837 ((TurnValve_v0 m10 dl14 (mixV dl24 (ValvesAround_v0 m10 dl14 dl24 x31) j) x827.id true).length) d838, .bool (TurnValve_v1 m10 dl14 (mixV dl24 (ValvesAround_v0 m10 dl14 dl24 x31) j) x827.id true)]) rfl ek kk) ?_
        refine Fq (.bool (TurnValve_v1 m10 dl14 (mixV dl24 (ValvesAround_v0 m10 dl14 dl24 x31) j) x827.id true)) (r_extract (vs := #[.slice A837 ((TurnValve_v0 m10 dl14 (mixV dl24 (ValvesAround_v0 m10 dl14 dl24 x31) j) x827.id true).length) d838, .bool (TurnValve_v1 m10 dl14 (mixV dl24 (ValvesAround_v0 m10 dl14 dl24 x31) j) x827.id true)]) rfl ek kk) ?_
        refine Fa (.slice A837 ((TurnValve_v0 m10 dl14 (mixV dl24 (ValvesAround_v0 m10 dl14 dl24 x31) j) x827.id true).length) d838) ?_
        refine Fa (.bool (TurnValve_v1 m10 dl14 (mixV dl24 (ValvesAround_v0 m10 dl14 dl24 x31) j) x827.id true)) ?_
        refine F.es ?_
        have x48 := SG.blk s846 x48 (Option.some_ne_none _)
        have c848 := (SG.belowR c822 s846 (fun kq e => by cases e))
        have rd849 := Rd.kept kl1_3 (SG.below s846)
        have rd850 := Rd.kept kl1_0 (SG.below s846)
        have rd851 := Rd.kept kl1_1 (SG.below s846)
        have rd852 := Rd.kept rd1_20 (SG.below s846)
        refine h77 _ _ ?_
        as_aux_lemma =>
         refine wk fun K78 h78 => ?_
         refine W.region_plain (row := none) [(0, false), (1, false), (2, false), (3, false), (4, false), (5, false), (6, false), (7, false), (8, true), (9, false)] kk ?_
         have s853 := SG.self w845 none
         refine Fv (.bool (TurnValve_v1 m10 dl14 (mixV dl24 (ValvesAround_v0 m10 dl14 dl24 x31) j) x827.id true)) ?_
         refine Fv (.bool (TurnValve_v1 m10 dl14 (mixV dl24 (ValvesAround_v0 m10 dl14 dl24 x31) j) x827.id true)) ?_
         rcases Bool.eq_false_or_eq_true (TurnValve_v1 m10 dl14 (mixV dl24 (ValvesAround_v0 m10 dl14 dl24 x31) j) x827.id true) with q854 | q854
         ·rw [q854]
          refine Fv (.slice A727 ((ValvesAround_v0 m10 dl14 dl24 x31).length) d728) ?_
          refine Fv (.slice A1_20 n1_20 c1_20) ?_
          refine Fv (.int .i64 (j : Int)) ?_
          obtain ⟨b855, o856, hA857, hb858, hc859, hc860, hc861, hc862⟩ := Rd.elValve rd852 hx828
          refine Fq (.pointer (some ⟨b855, o856 + j * 4, none⟩)) (r_idx (n := n1_20) (c := c1_20) (k := j) rfl ek hA857 kk kk (by have := hl1_20; omega)) ?_
          refine Fq (.pointer (some ⟨b855, o856 + j * 4, none⟩)) (r_field0 rfl ek kk) ?_
          refine Fl (.int .i64 x827.id) (sgS hc859 (by simp)) ?_
          refine Fc [.slice A727 ((ValvesAround_v0 m10 dl14 dl24 x31).length) d728, .int .i64 x827.id] (vHas_any A727 ((ValvesAround_v0 m10 dl14 dl24 x31).length) d728 (ValvesAround_v0 m10 dl14 dl24 x31) x827.id _ (Rd.kept rd851 (SG.below s853)) (by omega)) ?_
          rintro e w864 ⟨rfl, b863⟩
          have s865 := SG.of_below s853 b863
          refine ⟨_, rfl, s865, ?_⟩
          refine F.nx ?_
          rcases Bool.eq_false_or_eq_true ((ValvesAround_v0 m10 dl14 dl24 x31).contains x827.id) with q866 | q866
          ·rw [q866]
           refine Fq (.bool true) (r_pick (b := true) rfl ek ek) ?_
           refine F.es ?_
           have x48 := SG.blk s865 x48 (Option.some_ne_none _)
           have c867 := (SG.belowR c848 s865 (fun kq e => by cases e))
           have rd868 := Rd.kept rd849 (SG.below s865)
           have rd869 := Rd.kept rd850 (SG.below s865)
           have rd870 := Rd.kept rd851 (SG.below s865)
           have rd872 := Rd.kept rd840 (SG.below s865)
           refine h78 _ _ ?_
           refine wp_cond_true ek ?_
           refine W.region_quiet [(0, false), (1, false)] kk ?_
           refine Fv (.slice A837 ((TurnValve_v0 m10 dl14 (mixV dl24 (ValvesAround_v0 m10 dl14 dl24 x31) j) x827.id true).length) d838) ?_
           refine Fa (.slice A837 ((TurnValve_v0 m10 dl14 (mixV dl24 (ValvesAround_v0 m10 dl14 dl24 x31) j) x827.id true).length) d838) ?_
           refine F.es ?_
           refine h76 _ _ ?_
           refine W.region_quiet [(0, false), (1, false), (2, false)] kk ?_
           refine Fv (.int .i64 (j : Int)) ?_
           refine Fq (.int .i64 ((j + 1 : Nat) : Int)) (r_add (m := (j : Int)) (n := 1) (z := ((j + 1 : Nat) : Int)) rfl ek ek (by omega) (by omega)) ?_
           refine Fa (.int .i64 ((j + 1 : Nat) : Int)) ?_
           refine F.es ?_
           have hml := mixV_len dl24 (ValvesAround_v0 m10 dl14 dl24 x31) (j + 1)
           exact h73 _ _ _ (by omega : (dl24.length - (j + 1)) < _) ⟨j + 1, A837, (TurnValve_v0 m10 dl14 (mixV dl24 (ValvesAround_v0 m10 dl14 dl24 x31) j) x827.id true).length, d838, Kn.of, rfl, (by omega), x48, fm841, (by rw [((mix_turn (seg_good q725) (plan := (ValvesAround_v0 m10 dl14 dl24 x31)) (i := j) (x := x827) (by rw [← mix_self dl24 (ValvesAround_v0 m10 dl14 dl24 x31) j]; exact hx828)).2.1 q854 q866).symm]; exact rd872), rd869, rd870, rd868, c867⟩
          rw [q866]
          refine Fq (.bool false) (r_pick (b := true) rfl ek ek) ?_
          refine F.es ?_
          have x48 := SG.blk s865 x48 (Option.some_ne_none _)
          have c873 := (SG.belowR c848 s865 (fun kq e => by cases e))
          have rd874 := Rd.kept rd849 (SG.below s865)
          have rd875 := Rd.kept rd850 (SG.below s865)
          have rd876 := Rd.kept rd851 (SG.below s865)
          have rd877 := Rd.kept rd852 (SG.below s865)
          refine h78 _ _ ?_
          refine wp_cond_false ek ?_
          refine wp_skip ?_
          refine h76 _ _ ?_
          refine W.region_quiet [(0, false), (1, false), (2, false)] kk ?_
          refine Fv (.int .i64 (j : Int)) ?_
          refine Fq (.int .i64 ((j + 1 : Nat) : Int)) (r_add (m := (j : Int)) (n := 1) (z := ((j + 1 : Nat) : Int)) rfl ek ek (by omega) (by omega)) ?_
          refine Fa (.int .i64 ((j + 1 : Nat) : Int)) ?_
          refine F.es ?_
          have hml := mixV_len dl24 (ValvesAround_v0 m10 dl14 dl24 x31) (j + 1)
          exact h73 _ _ _ (by omega : (dl24.length - (j + 1)) < _) ⟨j + 1, A1_20, n1_20, c1_20, Kn.of, rfl, (by omega), x48, fm1_20, (by rw [(mix_turn (seg_good q725) (plan := (ValvesAround_v0 m10 dl14 dl24 x31)) (i := j) (x := x827) (by rw [← mix_self dl24 (ValvesAround_v0 m10 dl14 dl24 x31) j]; exact hx828)).2.2 (fun h9 => by rw [q866] at h9; exact absurd h9.2 (by simp))]; exact rd877), rd875, rd876, rd874, c873⟩
         rw [q854]
         refine Fs s853 ?_
         refine Fs s853 ?_
         refine Fs s853 ?_
         refine Fs s853 ?_
         refine Fs s853 ?_
         refine Fs s853 ?_
         refine Fs s853 ?_
         refine Fq (.bool false) (r_pick (b := false) rfl ek ek) ?_
         refine F.es ?_
         have x48 := SG.blk s853 x48 (Option.some_ne_none _)
         have c879 := (SG.belowR c848 s853 (fun kq e => by cases e))
         have rd880 := Rd.kept rd849 (SG.below s853)
         have rd881 := Rd.kept rd850 (SG.below s853)
         have rd882 := Rd.kept rd851 (SG.below s853)
         have rd883 := Rd.kept rd852 (SG.below s853)
         refine h78 _ _ ?_
         as_aux_lemma =>
          refine wp_cond_false ek ?_
          refine wp_skip ?_
          refine h76 _ _ ?_
          refine W.region_quiet [(0, false), (1, false), (2, false)] kk ?_
          refine Fv (.int .i64 (j : Int)) ?_
          refine Fq (.int .i64 ((j + 1 : Nat) : Int)) (r_add (m := (j : Int)) (n := 1) (z := ((j + 1 : Nat) : Int)) rfl ek ek (by omega) (by omega)) ?_
          refine Fa (.int .i64 ((j + 1 : Nat) : Int)) ?_
          refine F.es ?_
          have hml := mixV_len dl24 (ValvesAround_v0 m10 dl14 dl24 x31) (j + 1)
          exact h73 _ _ _ (by omega : (dl24.length - (j + 1)) < _) ⟨j + 1, A1_20, n1_20, c1_20, Kn.of, rfl, (by omega), x48, fm1_20, (by rw [(mix_turn (seg_good q725) (plan := (ValvesAround_v0 m10 dl14 dl24 x31)) (i := j) (x := x827) (by rw [← mix_self dl24 (ValvesAround_v0 m10 dl14 dl24 x31) j]; exact hx828)).2.2 (fun h9 => by rw [q854] at h9; exact absurd h9.1 (by simp))]; exact rd883), rd881, rd882, rd880, c879⟩
       refine Fq (.bool false) (r_lss (m := (j : Int)) (n := (n1_20 : Int)) rfl ek ek (decide_eq_false q823)) ?_
       refine F.es ?_
       refine h75 _ _ ?_
       refine wp_cond_false ek ?_
       refine wp_exit ?_
       refine h71 _ _ ?_
       refine wk fun K79 h79 => ?_
       refine W.region_quiet [(0, false)] kk ?_
       refine Fa (.int .i64 1) ?_
       refine F.es ?_
       refine h79 _ _ ?_
       refine wp_block ?_
       have hmx : mixV dl24 (ValvesAround_v0 m10 dl14 dl24 x31) j = shutV dl24 (ValvesAround_v0 m10 dl14 dl24 x31) := mixV_end (by omega)
       have rd886 : Rd wl1 4 A1_20 n1_20 (valvesV (shutV dl24 (ValvesAround_v0 m10 dl14 dl24 x31))) := by rw [← hmx]; exact rd1_20
       have hl887 := rd_valves_len rd886
       rw [shutV_len] at hl887
       refine loopK (fun am2 aa2 wl2 => ∃ (s : Int) , Kn aa2 [(0, .slice A n c), (2, .bool false), (3, .pointer (some ⟨b35, 0, none⟩)), (5, .int .i64 x31), (6, .slice A55 ((SegmentOfPipe_v0 m10 dl14 dl24 x31).length) d56), (20, .slice A1_20 n1_20 c1_20), (24, .int .i64 s)] 273 ∧ (am2 = (m10 + 1 - s).toNat) ∧ (1 ≤ s) ∧ (wl2.heap[b35]? = some (.cells #[.int .i64 m10, .slice A11 n12 c13] 26 (0, 0))) ∧ (Rd wl2 1 A55 ((SegmentOfPipe_v0 m10 dl14 dl24 x31).length) (intsV (SegmentOfPipe_v0 m10 dl14 dl24 x31))) ∧ (Rd wl2 4 A1_20 n1_20 (valvesV (shutV dl24 (ValvesAround_v0 m10 dl14 dl24 x31)))) ∧ (Rd wl2 4 A11 n12 (pipesV dl14)) ∧ (Below w.heap.size w wl2)) ((m10 + 1 - 1).toNat) ?_ ?_
       ·exact ⟨1, Kn.of, rfl, (by omega), x48, kl1_0, rd886, kl1_3, c822⟩
       rintro am2 aa2 wl2 K80 h80 ⟨s, ⟨U2, rfl⟩, rfl, hs, x48, kl2_0, kl2_1, kl2_2, c888⟩
       refine wk fun K81 h81 => ?_
       refine wk fun K82 h82 => ?_
       refine W.region_quiet [(0, false), (1, false), (2, false), (3, false)] kk ?_
       refine Fv (.int .i64 s) ?_
       refine Fq (.pointer (some ⟨b35, 0, none⟩)) (r_field0 rfl ek kk) ?_
       refine Fl (.int .i64 m10) (eqS (blk_cell (j := 0) x48 kk)) ?_
       by_cases q889 : (s : Int) ≤ (m10 : Int)
       ·refine Fq (.bool true) (r_leq (m := s) (n := m10) rfl ek ek (decide_eq_true q889)) ?_
        refine F.es ?_
        refine h82 _ _ ?_
        refine wp_cond_true ek ?_
        refine wp_skip ?_
        refine h81 _ _ ?_
        refine wk fun K83 h83 => ?_
        refine wp_block ?_
        refine wk fun K84 h84 => ?_
        refine W.region_plain (row := none) [(0, false), (1, false), (2, false), (3, true), (4, false), (5, false), (6, false), (7, false), (8, false)] kk ?_
        have s890 := SG.self wl2 none
        refine Fq (.agg #[.int .i64 m10, .slice A11 n12 c13]) (r_load2 rfl ek kk kk (sgS (blk_cell (j := 0) x48 kk) (Option.some_ne_none _)) (sgS (blk_cell (j := 1) x48 kk) (Option.some_ne_none _))) ?_
        refine Fv (.slice A1_20 n1_20 c1_20) ?_
        refine Fv (.int .i64 s) ?_
        refine Fc [.agg #[.int .i64 m10, .slice A11 n12 c13], .slice A1_20 n1_20 c1_20, .int .i64 s] (DryNodes_impl m10 A11 n12 c13 dl14 A1_20 n1_20 c1_20 (shutV dl24 (ValvesAround_v0 m10 dl14 dl24 x31)) s wl2 (Rd.kept kl2_2 (SG.below s890)) (Rd.kept kl2_1 (SG.below s890)) (by omega) (by omega) fm16 fm1_20) ?_
        rintro e w899 ⟨A891, d892, rfl, r893, b898⟩
        have s900 := SG.of_below s890 b898
        refine ⟨_, rfl, s900, ?_⟩
        refine F.nx ?_
        have rd894 := own_rd r893
        have hl896 : (DryNodes_v0 m10 dl14 (shutV dl24 (ValvesAround_v0 m10 dl14 dl24 x31)) s).length = (DryNodes_v0 m10 dl14 (shutV dl24 (ValvesAround_v0 m10 dl14 dl24 x31)) s).length := rfl
        have hb901 := DryNodes_len m10 dl14 (shutV dl24 (ValvesAround_v0 m10 dl14 dl24 x31)) s
        have q902 : (DryNodes_v1 m10 dl14 (shutV dl24 (ValvesAround_v0 m10 dl14 dl24 x31)) s) = true := (dry_ok q725 (by omega)).1
        rw [q902]
        refine Fv (.tuple #[.slice A891 ((DryNodes_v0 m10 dl14 (shutV dl24 (ValvesAround_v0 m10 dl14 dl24 x31)) s).length) d892, .bool true]) ?_
        refine Fq (.slice A891 ((DryNodes_v0 m10 dl14 (shutV dl24 (ValvesAround_v0 m10 dl14 dl24 x31)) s).length) d892) (r_extract (vs := #[.slice A891 ((DryNodes_v0 m10 dl14 (shutV dl24 (ValvesAround_v0 m10 dl14 dl24 x31)) s).length) d892, .bool true]) rfl ek kk) ?_
        refine Fq (.bool true) (r_extract (vs := #[.slice A891 ((DryNodes_v0 m10 dl14 (shutV dl24 (ValvesAround_v0 m10 dl14 dl24 x31)) s).length) d892, .bool true]) rfl ek kk) ?_
        refine Fa (.slice A891 ((DryNodes_v0 m10 dl14 (shutV dl24 (ValvesAround_v0 m10 dl14 dl24 x31)) s).length) d892) ?_
        refine Fa (.bool true) ?_
        refine F.es ?_
        have x48 := SG.blk s900 x48 (Option.some_ne_none _)
        have c903 := (SG.belowR c888 s900 (fun kq e => by cases e))
        have rd904 := Rd.kept kl2_2 (SG.below s900)
        have rd905 := Rd.kept kl2_0 (SG.below s900)
        have rd906 := Rd.kept kl2_1 (SG.below s900)
        refine h84 _ _ ?_
        as_aux_lemma =>
         refine wk fun K85 h85 => ?_
         refine W.region_plain (row := none) [(0, false), (1, false), (2, false), (3, true), (4, false), (5, false), (6, false), (7, false), (8, false)] kk ?_
         have s907 := SG.self w899 none
         refine Fq (.agg #[.int .i64 m10, .slice A11 n12 c13]) (r_load2 rfl ek kk kk (sgS (blk_cell (j := 0) x48 kk) (Option.some_ne_none _)) (sgS (blk_cell (j := 1) x48 kk) (Option.some_ne_none _))) ?_
         refine Fv (.slice A1_20 n1_20 c1_20) ?_
         refine Fv (.int .i64 s) ?_
         refine Fc [.agg #[.int .i64 m10, .slice A11 n12 c13], .slice A1_20 n1_20 c1_20, .int .i64 s] (DryPipes_impl m10 A11 n12 c13 dl14 A1_20 n1_20 c1_20 (shutV dl24 (ValvesAround_v0 m10 dl14 dl24 x31)) s w899 (Rd.kept rd904 (SG.below s907)) (Rd.kept rd906 (SG.below s907)) (by omega) (by omega) fm16 fm1_20) ?_
         rintro e w916 ⟨A908, d909, rfl, r910, b915⟩
         have s917 := SG.of_below s907 b915
         refine ⟨_, rfl, s917, ?_⟩
         refine F.nx ?_
         have rd911 := own_rd r910
         have hl913 : (DryPipes_v0 m10 dl14 (shutV dl24 (ValvesAround_v0 m10 dl14 dl24 x31)) s).length = (DryPipes_v0 m10 dl14 (shutV dl24 (ValvesAround_v0 m10 dl14 dl24 x31)) s).length := rfl
         have hb918 := DryPipes_len m10 dl14 (shutV dl24 (ValvesAround_v0 m10 dl14 dl24 x31)) s
         have q919 : (DryPipes_v1 m10 dl14 (shutV dl24 (ValvesAround_v0 m10 dl14 dl24 x31)) s) = true := (dry_ok q725 (by omega)).2
         rw [q919]
         refine Fv (.tuple #[.slice A908 ((DryPipes_v0 m10 dl14 (shutV dl24 (ValvesAround_v0 m10 dl14 dl24 x31)) s).length) d909, .bool true]) ?_
         refine Fq (.slice A908 ((DryPipes_v0 m10 dl14 (shutV dl24 (ValvesAround_v0 m10 dl14 dl24 x31)) s).length) d909) (r_extract (vs := #[.slice A908 ((DryPipes_v0 m10 dl14 (shutV dl24 (ValvesAround_v0 m10 dl14 dl24 x31)) s).length) d909, .bool true]) rfl ek kk) ?_
         refine Fq (.bool true) (r_extract (vs := #[.slice A908 ((DryPipes_v0 m10 dl14 (shutV dl24 (ValvesAround_v0 m10 dl14 dl24 x31)) s).length) d909, .bool true]) rfl ek kk) ?_
         refine Fa (.slice A908 ((DryPipes_v0 m10 dl14 (shutV dl24 (ValvesAround_v0 m10 dl14 dl24 x31)) s).length) d909) ?_
         refine Fa (.bool true) ?_
         refine F.es ?_
         have x48 := SG.blk s917 x48 (Option.some_ne_none _)
         have c920 := (SG.belowR c903 s917 (fun kq e => by cases e))
         have rd921 := Rd.kept rd904 (SG.below s917)
         have rd922 := Rd.kept rd905 (SG.below s917)
         have rd923 := Rd.kept rd906 (SG.below s917)
         have rd924 := Rd.kept rd894 (SG.below s917)
         refine h85 _ _ ?_
         refine joinK (fun amj4 aaj4 wlj4 => Kn aaj4 [(0, .slice A n c), (2, .bool false), (3, .pointer (some ⟨b35, 0, none⟩)), (5, .int .i64 x31), (6, .slice A55 ((SegmentOfPipe_v0 m10 dl14 dl24 x31).length) d56), (20, .slice A1_20 n1_20 c1_20), (24, .int .i64 s), (25, .slice A891 ((DryNodes_v0 m10 dl14 (shutV dl24 (ValvesAround_v0 m10 dl14 dl24 x31)) s).length) d892), (26, .bool true), (27, .slice A908 ((DryPipes_v0 m10 dl14 (shutV dl24 (ValvesAround_v0 m10 dl14 dl24 x31)) s).length) d909), (28, .bool true), (175, .bool true)] 273 ∧ (amj4 = 0) ∧ (wlj4.heap[b35]? = some (.cells #[.int .i64 m10, .slice A11 n12 c13] 26 (0, 0))) ∧ (Rd wlj4 1 A55 ((SegmentOfPipe_v0 m10 dl14 dl24 x31).length) (intsV (SegmentOfPipe_v0 m10 dl14 dl24 x31))) ∧ (Rd wlj4 4 A1_20 n1_20 (valvesV (shutV dl24 (ValvesAround_v0 m10 dl14 dl24 x31)))) ∧ (Rd wlj4 1 A891 ((DryNodes_v0 m10 dl14 (shutV dl24 (ValvesAround_v0 m10 dl14 dl24 x31)) s).length) (intsV (DryNodes_v0 m10 dl14 (shutV dl24 (ValvesAround_v0 m10 dl14 dl24 x31)) s))) ∧ (Rd wlj4 1 A908 ((DryPipes_v0 m10 dl14 (shutV dl24 (ValvesAround_v0 m10 dl14 dl24 x31)) s).length) (intsV (DryPipes_v0 m10 dl14 (shutV dl24 (ValvesAround_v0 m10 dl14 dl24 x31)) s))) ∧ (Rd wlj4 4 A11 n12 (pipesV dl14)) ∧ (Below w.heap.size w wlj4)) ?_ ?_
         ·rintro amj4 aaj4 wlj4 ⟨⟨Uj4, rfl⟩, rfl, x48, klj4_0, klj4_1, klj4_2, klj4_3, klj4_4, c925⟩
          refine wk fun K86 h86 => ?_
          refine W.region_quiet [(0, false)] kk ?_
          refine Fa (.int .i64 0) ?_
          refine F.es ?_
          refine h86 _ _ ?_
          refine wp_block ?_
          refine loopK (fun am3 aa3 wl3 => ∃ (k : Nat) , Kn aa3 [(0, .slice A n c), (2, .bool false), (3, .pointer (some ⟨b35, 0, none⟩)), (5, .int .i64 x31), (6, .slice A55 ((SegmentOfPipe_v0 m10 dl14 dl24 x31).length) d56), (20, .slice A1_20 n1_20 c1_20), (24, .int .i64 s), (25, .slice A891 ((DryNodes_v0 m10 dl14 (shutV dl24 (ValvesAround_v0 m10 dl14 dl24 x31)) s).length) d892), (26, .bool true), (27, .slice A908 ((DryPipes_v0 m10 dl14 (shutV dl24 (ValvesAround_v0 m10 dl14 dl24 x31)) s).length) d909), (28, .bool true), (29, .int .i64 (k : Int)), (175, .bool true)] 273 ∧ (am3 = (SegmentOfPipe_v0 m10 dl14 dl24 x31).length - k) ∧ (k ≤ (SegmentOfPipe_v0 m10 dl14 dl24 x31).length) ∧ (wl3.heap[b35]? = some (.cells #[.int .i64 m10, .slice A11 n12 c13] 26 (0, 0))) ∧ (Rd wl3 1 A55 ((SegmentOfPipe_v0 m10 dl14 dl24 x31).length) (intsV (SegmentOfPipe_v0 m10 dl14 dl24 x31))) ∧ (Rd wl3 4 A1_20 n1_20 (valvesV (shutV dl24 (ValvesAround_v0 m10 dl14 dl24 x31)))) ∧ (Rd wl3 1 A891 ((DryNodes_v0 m10 dl14 (shutV dl24 (ValvesAround_v0 m10 dl14 dl24 x31)) s).length) (intsV (DryNodes_v0 m10 dl14 (shutV dl24 (ValvesAround_v0 m10 dl14 dl24 x31)) s))) ∧ (Rd wl3 1 A908 ((DryPipes_v0 m10 dl14 (shutV dl24 (ValvesAround_v0 m10 dl14 dl24 x31)) s).length) (intsV (DryPipes_v0 m10 dl14 (shutV dl24 (ValvesAround_v0 m10 dl14 dl24 x31)) s))) ∧ (Rd wl3 4 A11 n12 (pipesV dl14)) ∧ (Below w.heap.size w wl3)) ((SegmentOfPipe_v0 m10 dl14 dl24 x31).length - 0) ?_ ?_
          ·exact ⟨0, Kn.of, rfl, (Nat.zero_le _), x48, klj4_0, klj4_1, klj4_2, klj4_3, klj4_4, c925⟩
          rintro am3 aa3 wl3 K87 h87 ⟨k, ⟨U3, rfl⟩, rfl, hk, x48, kl3_0, kl3_1, kl3_2, kl3_3, kl3_4, c926⟩
          refine wk fun K88 h88 => ?_
          refine wk fun K89 h89 => ?_
          refine W.region_quiet [(0, false), (1, false), (2, false), (3, false)] kk ?_
          refine Fv (.int .i64 (k : Int)) ?_
          refine Fv (.slice A55 ((SegmentOfPipe_v0 m10 dl14 dl24 x31).length) d56) ?_
          refine Fq (.int .i64 (((SegmentOfPipe_v0 m10 dl14 dl24 x31).length : Nat) : Int)) (r_len (A := A55) (n := (SegmentOfPipe_v0 m10 dl14 dl24 x31).length) (c := d56) rfl ek kk) ?_
          by_cases q927 : ((k : Int) : Int) < ((((SegmentOfPipe_v0 m10 dl14 dl24 x31).length : Nat) : Int) : Int)
          ·refine Fq (.bool true) (r_lss (m := (k : Int)) (n := (((SegmentOfPipe_v0 m10 dl14 dl24 x31).length : Nat) : Int)) rfl ek ek (decide_eq_true q927)) ?_
           refine F.es ?_
           refine h89 _ _ ?_
           refine wp_cond_true ek ?_
           refine wp_skip ?_
           refine h88 _ _ ?_
           refine wk fun K90 h90 => ?_
           refine wp_block ?_
           refine wk fun K91 h91 => ?_
           refine W.region_plain (row := none) [(0, false), (1, false), (2, true), (3, false), (4, false), (5, false), (6, false), (7, false), (8, false), (9, false), (10, true), (11, false), (12, false)] kk ?_
           have s928 := SG.self wl3 none
           refine Fv (.slice A55 ((SegmentOfPipe_v0 m10 dl14 dl24 x31).length) d56) ?_
           refine Fv (.int .i64 s) ?_
           refine Fc [.slice A55 ((SegmentOfPipe_v0 m10 dl14 dl24 x31).length) d56, .int .i64 s] (vHas_any A55 ((SegmentOfPipe_v0 m10 dl14 dl24 x31).length) d56 (SegmentOfPipe_v0 m10 dl14 dl24 x31) s _ (Rd.kept kl3_0 (SG.below s928)) (by omega)) ?_
           rintro e w930 ⟨rfl, b929⟩
           have s931 := SG.of_below s928 b929
           refine ⟨_, rfl, s931, ?_⟩
           refine F.nx ?_
           rcases Bool.eq_false_or_eq_true ((SegmentOfPipe_v0 m10 dl14 dl24 x31).contains s) with q932 | q932
           ·rw [q932]
            refine Fq (.bool false) (r_not (b := true) rfl ek rfl) ?_
            refine Fv (.bool false) ?_
            refine Fs s931 ?_
            refine Fs s931 ?_
            refine Fs s931 ?_
            refine Fs s931 ?_
            refine Fs s931 ?_
            refine Fs s931 ?_
            refine Fs s931 ?_
            refine Fq (.bool false) (r_pick (b := false) rfl ek ek) ?_
            refine F.es ?_
            have x48 := SG.blk s931 x48 (Option.some_ne_none _)
            have c933 := (SG.belowR c926 s931 (fun kq e => by cases e))
            have rd934 := Rd.kept kl3_4 (SG.below s931)
            have rd935 := Rd.kept kl3_0 (SG.below s931)
            have rd936 := Rd.kept kl3_1 (SG.below s931)
            have rd937 := Rd.kept kl3_2 (SG.below s931)
            have rd938 := Rd.kept kl3_3 (SG.below s931)
            refine h91 _ _ ?_
            as_aux_lemma =>
             refine wp_cond_false ek ?_
             refine wp_skip ?_
             refine h90 _ _ ?_
             refine W.region_quiet [(0, false), (1, false), (2, false)] kk ?_
             refine Fv (.int .i64 (k : Int)) ?_
             refine Fq (.int .i64 ((k + 1 : Nat) : Int)) (r_add (m := (k : Int)) (n := 1) (z := ((k + 1 : Nat) : Int)) rfl ek ek (by omega) (by omega)) ?_
             refine Fa (.int .i64 ((k + 1 : Nat) : Int)) ?_
             refine F.es ?_
             exact h87 _ _ _ (by omega : ((SegmentOfPipe_v0 m10 dl14 dl24 x31).length - (k + 1)) < _) ⟨k + 1, Kn.of, rfl, (by omega), x48, rd935, rd936, rd937, rd938, rd934, c933⟩
           rw [q932]
           refine Fq (.bool true) (r_not (b := false) rfl ek rfl) ?_
           refine Fv (.bool true) ?_
           refine Fv (.slice A891 ((DryNodes_v0 m10 dl14 (shutV dl24 (ValvesAround_v0 m10 dl14 dl24 x31)) s).length) d892) ?_
           refine Fv (.slice A55 ((SegmentOfPipe_v0 m10 dl14 dl24 x31).length) d56) ?_
           refine Fv (.int .i64 (k : Int)) ?_
           obtain ⟨x939, hx940⟩ := get_of (zs := (SegmentOfPipe_v0 m10 dl14 dl24 x31)) (k := k) (by have := hl60; omega)
           obtain ⟨b941, o942, hA943, hb944, hc945⟩ := Rd.elInt kl3_0 hx940
           refine Fq (.pointer (some ⟨b941, o942 + k, none⟩)) (r_idx1 (n := (SegmentOfPipe_v0 m10 dl14 dl24 x31).length) (c := d56) (k := k) rfl ek hA943 kk kk (by have := hl60; omega)) ?_
           refine Fl (.int .i64 x939) (sgS hc945 (by simp)) ?_
           refine Fc [.slice A891 ((DryNodes_v0 m10 dl14 (shutV dl24 (ValvesAround_v0 m10 dl14 dl24 x31)) s).length) d892, .int .i64 x939] (vHas_any A891 ((DryNodes_v0 m10 dl14 (shutV dl24 (ValvesAround_v0 m10 dl14 dl24 x31)) s).length) d892 (DryNodes_v0 m10 dl14 (shutV dl24 (ValvesAround_v0 m10 dl14 dl24 x31)) s) x939 _ (Rd.kept kl3_2 (SG.below s931)) (by omega)) ?_
           rintro e w947 ⟨rfl, b946⟩
           have s948 := SG.of_below s931 b946
           refine ⟨_, rfl, s948, ?_⟩
           refine F.nx ?_
           have q949 : ((DryNodes_v0 m10 dl14 (shutV dl24 (ValvesAround_v0 m10 dl14 dl24 x31)) s).contains x939) = true := (dry_pipe q725 (by omega) q932).2 x939 (List.mem_of_getElem? hx940)
           rw [q949]
           refine Fq (.bool false) (r_not (b := true) rfl ek rfl) ?_
           refine Fq (.bool false) (r_pick (b := true) rfl ek ek) ?_
           refine F.es ?_
           have x48 := SG.blk s948 x48 (Option.some_ne_none _)
           have c950 := (SG.belowR c926 s948 (fun kq e => by cases e))
           have rd951 := Rd.kept kl3_4 (SG.below s948)
           have rd952 := Rd.kept kl3_0 (SG.below s948)
           have rd953 := Rd.kept kl3_1 (SG.below s948)
           have rd954 := Rd.kept kl3_2 (SG.below s948)
           have rd955 := Rd.kept kl3_3 (SG.below s948)
           refine h91 _ _ ?_
           refine wp_cond_false ek ?_
           refine wp_skip ?_
           refine h90 _ _ ?_
           refine W.region_quiet [(0, false), (1, false), (2, false)] kk ?_
           refine Fv (.int .i64 (k : Int)) ?_
           refine Fq (.int .i64 ((k + 1 : Nat) : Int)) (r_add (m := (k : Int)) (n := 1) (z := ((k + 1 : Nat) : Int)) rfl ek ek (by omega) (by omega)) ?_
           refine Fa (.int .i64 ((k + 1 : Nat) : Int)) ?_
           refine F.es ?_
           exact h87 _ _ _ (by omega : ((SegmentOfPipe_v0 m10 dl14 dl24 x31).length - (k + 1)) < _) ⟨k + 1, Kn.of, rfl, (by omega), x48, rd952, rd953, rd954, rd955, rd951, c950⟩
          refine Fq (.bool false) (r_lss (m := (k : Int)) (n := (((SegmentOfPipe_v0 m10 dl14 dl24 x31).length : Nat) : Int)) rfl ek ek (decide_eq_false q927)) ?_
          refine F.es ?_
          refine h89 _ _ ?_
          refine wp_cond_false ek ?_
          refine wp_exit ?_
          refine h83 _ _ ?_
          refine W.region_quiet [(0, false), (1, false), (2, false)] kk ?_
          refine Fv (.int .i64 s) ?_
          refine Fq (.int .i64 (s + 1)) (r_add (m := s) (n := 1) (z := s + 1) rfl ek ek (rfl) (by omega)) ?_
          refine Fa (.int .i64 (s + 1)) ?_
          refine F.es ?_
          exact h80 _ _ _ (by omega : ((m10 + 1 - (s + 1)).toNat) < _) ⟨s + 1, Kn.of, rfl, (by omega), x48, kl3_0, kl3_1, kl3_4, c926⟩
         intro K92 h92
         refine wk fun K93 h93 => ?_
         refine W.region_plain (row := none) [(0, false), (1, false), (2, false), (3, false), (4, false), (5, false), (6, false), (7, false), (8, false), (9, true), (10, false), (11, false), (12, false), (13, false), (14, true), (15, false), (16, false), (17, false)] kk ?_
         have s956 := SG.self w916 none
         refine Fv (.bool true) ?_
         refine Fq (.bool false) (r_not (b := true) rfl ek rfl) ?_
         refine Fv (.bool false) ?_
         refine Fv (.bool true) ?_
         refine Fq (.bool false) (r_not (b := true) rfl ek rfl) ?_
         refine Fq (.bool false) (r_pick (b := false) rfl ek ek) ?_
         refine Fv (.bool false) ?_
         refine Fv (.slice A55 ((SegmentOfPipe_v0 m10 dl14 dl24 x31).length) d56) ?_
         refine Fv (.int .i64 s) ?_
         refine Fc [.slice A55 ((SegmentOfPipe_v0 m10 dl14 dl24 x31).length) d56, .int .i64 s] (vHas_any A55 ((SegmentOfPipe_v0 m10 dl14 dl24 x31).length) d56 (SegmentOfPipe_v0 m10 dl14 dl24 x31) s _ (Rd.kept rd922 (SG.below s956)) (by omega)) ?_
         rintro e w958 ⟨rfl, b957⟩
         have s959 := SG.of_below s956 b957
         refine ⟨_, rfl, s959, ?_⟩
         refine F.nx ?_
         rcases Bool.eq_false_or_eq_true ((SegmentOfPipe_v0 m10 dl14 dl24 x31).contains s) with q960 | q960
         ·rw [q960]
          refine Fq (.bool false) (r_not (b := true) rfl ek rfl) ?_
          refine Fv (.bool false) ?_
          refine Fs s959 ?_
          refine Fs s959 ?_
          refine Fs s959 ?_
          refine Fs s959 ?_
          refine Fq (.bool false) (r_pick (b := false) rfl ek ek) ?_
          refine Fq (.bool false) (r_pick (b := false) rfl ek ek) ?_
          refine F.es ?_
          have x48 := SG.blk s959 x48 (Option.some_ne_none _)
          have c961 := (SG.belowR c920 s959 (fun kq e => by cases e))
          have rd962 := Rd.kept rd921 (SG.below s959)
          have rd963 := Rd.kept rd922 (SG.below s959)
          have rd964 := Rd.kept rd923 (SG.below s959)
          have rd965 := Rd.kept rd924 (SG.below s959)
          have rd966 := Rd.kept rd911 (SG.below s959)
          refine h93 _ _ ?_
          as_aux_lemma =>
           refine wp_cond_false ek ?_
           refine wp_skip ?_
           exact h92 _ _ _ ⟨Kn.of, rfl, x48, rd963, rd964, rd965, rd966, rd962, c961⟩
         rw [q960]
         refine Fq (.bool true) (r_not (b := false) rfl ek rfl) ?_
         refine Fv (.bool true) ?_
         refine Fv (.slice A908 ((DryPipes_v0 m10 dl14 (shutV dl24 (ValvesAround_v0 m10 dl14 dl24 x31)) s).length) d909) ?_
         refine Fv (.int .i64 x31) ?_
         refine Fc [.slice A908 ((DryPipes_v0 m10 dl14 (shutV dl24 (ValvesAround_v0 m10 dl14 dl24 x31)) s).length) d909, .int .i64 x31] (vHas_any A908 ((DryPipes_v0 m10 dl14 (shutV dl24 (ValvesAround_v0 m10 dl14 dl24 x31)) s).length) d909 (DryPipes_v0 m10 dl14 (shutV dl24 (ValvesAround_v0 m10 dl14 dl24 x31)) s) x31 _ (Rd.kept rd911 (SG.below s959)) (by omega)) ?_
         rintro e w968 ⟨rfl, b967⟩
         have s969 := SG.of_below s959 b967
         refine ⟨_, rfl, s969, ?_⟩
         refine F.nx ?_
         have q970 : ((DryPipes_v0 m10 dl14 (shutV dl24 (ValvesAround_v0 m10 dl14 dl24 x31)) s).contains x31) = true := (dry_pipe q725 (by omega) q960).1
         rw [q970]
         refine Fq (.bool false) (r_not (b := true) rfl ek rfl) ?_
         refine Fq (.bool false) (r_pick (b := true) rfl ek ek) ?_
         refine Fq (.bool false) (r_pick (b := false) rfl ek ek) ?_
         refine F.es ?_
         have x48 := SG.blk s969 x48 (Option.some_ne_none _)
         have c971 := (SG.belowR c920 s969 (fun kq e => by cases e))
         have rd972 := Rd.kept rd921 (SG.below s969)
         have rd973 := Rd.kept rd922 (SG.below s969)
         have rd974 := Rd.kept rd923 (SG.below s969)
         have rd975 := Rd.kept rd924 (SG.below s969)
         have rd976 := Rd.kept rd911 (SG.below s969)
         refine h93 _ _ ?_
         refine wp_cond_false ek ?_
         refine wp_skip ?_
         exact h92 _ _ _ ⟨Kn.of, rfl, x48, rd973, rd974, rd975, rd976, rd972, c971⟩
       refine Fq (.bool false) (r_leq (m := s) (n := m10) rfl ek ek (decide_eq_false q889)) ?_
       refine F.es ?_
       refine h82 _ _ ?_
       refine wp_cond_false ek ?_
       refine wp_exit ?_
       exact h64 _ _ _ ⟨Kn.of, rfl, c888⟩
    rw [q725]
    refine wp_cond_false ek ?_
    refine wp_skip ?_
    exact h64 _ _ _ ⟨Kn.of, rfl, c556⟩
theorem byte_of {n : Int} (h : (Lit.int .u8 n).wf = true) : 0 ≤ n ∧ n < 256 := by
  have h2 : (decide ((0 : Int) ≤ n) && decide (n ≤ 255)) = true := h
  simp only [Bool.and_eq_true, decide_eq_true_eq] at h2
  omega
theorem w_FnSegments (x0 : Option Addr) (n0 p0 : Nat) (a0 : List Int) (w : World) (H0 : a0.length = n0 ∧ Rd w 1 x0 n0 (a0.map (Value.int .u8)) ∧ n0 ≤ maxLen ∧ ∀ n ∈ a0, (Lit.int .u8 n).wf = true) :
    Calls Try.prog 3 #[.slice x0 n0 p0] w fun e w' => e = .returned (.bool true) ∧ Below w.heap.size w w' :=
  wi_FnSegments x0 n0 p0 a0 w H0.2.1 (fun z hz => byte_of (H0.2.2.2 z hz)) (by have := H0.2.2.1; unfold maxLen at this; omega)
end Go.Proofs.Ytdbgfejeleafgaa
namespace Go.Proofs.Ytdbgfejeleafgaa
open Go.RowKit Go.ChangeShapes Go.WideShapes Go.Deep Go.Joins
set_option linter.unusedVariables false
section
variable {H : Type} {enc : TypeId × Value → H} {P : Program} {w : World} {base : Nat} {spare : Nat → Bool} {held : Bool}
theorem addr_form {a : Addr} {u : Value} (h : w.cell? (a.add 0) = some u) : ∃ b off, a = ⟨b, off, none⟩ ∧ b < w.heap.size := by
  obtain ⟨b, off, spot⟩ := a
  have e : (⟨b, off, spot⟩ : Addr).add 0 = ⟨b, off, spot⟩ := by simp [Addr.add]
  rw [e] at h
  have hs : spot = none := World.cell?_spot h
  subst hs
  exact ⟨b, off, rfl, World.block_lt_of_cell? w _ h⟩
theorem add_form (b off j : Nat) : (⟨b, off, none⟩ : Addr).add j = ⟨b, off + j, none⟩ := by
  unfold Addr.add
  by_cases h : j = 0
  · subst h; simp
  · simp [h]
theorem open_nums {t e : TypeId} {k : IntKind} {A : Option Addr} {len cap : Nat} {d : DataW H} {p : List MemPlace} (ht : P.underlying t = some (.slice e)) (he : P.underlying e = some (.int k)) (hc : P.cellsOf e = 1)
    (h : DataW.Trod enc P w base spare held t (.slice A len cap) d p) :
    ∃ zs : List Int, zs.length = len ∧ Rd w 1 A len (zs.map (Value.int k)) ∧ len ≤ maxLen ∧ ∀ n ∈ zs, (Lit.int k n).wf = true := by
  obtain ⟨fuel, hf⟩ := h
  rcases open_ints ht he hc hf with ⟨hcs, _⟩ | ⟨x, l, c, zs, hcs, _, hl, hm, hz, _, hcell, hwz⟩
  · simp [Value.cells] at hcs
    obtain ⟨rfl, rfl, rfl⟩ := hcs
    exact ⟨[], rfl, Rd.nil, Nat.zero_le _, fun n hn => by cases hn⟩
  · simp [Value.cells] at hcs
    obtain ⟨rfl, rfl, rfl⟩ := hcs
    have hle : len ≤ zs.length := by rw [hz]; split <;> omega
    refine ⟨zs.take len, by simp; omega, ⟨by simp; omega, fun hn => ?_⟩, by omega, fun n hn => hwz n (List.mem_of_mem_take hn)⟩
    obtain ⟨b, off, rfl, hb⟩ := addr_form (hcell 0 (by omega))
    refine ⟨b, off, rfl, hb, fun j u hu => ?_⟩
    rw [List.getElem?_map, List.getElem?_take] at hu
    split at hu
    · rename_i hj
      have := hcell j (by omega)
      rw [add_form] at this
      rw [this]
      rw [List.getElem?_eq_getElem (by omega)] at hu
      simp at hu
      rw [← hu, List.getD_eq_getElem?_getD, List.getElem?_eq_getElem (by omega)]; rfl
    · simp at hu
end
end Go.Proofs.Ytdbgfejeleafgaa
