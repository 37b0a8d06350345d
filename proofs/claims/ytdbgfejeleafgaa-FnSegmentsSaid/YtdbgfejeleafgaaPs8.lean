/- What the texts behind it build on; conditions: none. -/
import Derived.Test.YtdbgfejeleafgaaPs7
namespace Go.Proofs.Ytdbgfejeleafgaa
open Go.RowKit
set_option linter.unusedVariables false
set_option linter.unusedSimpArgs false
noncomputable def arQ (ps : List Pp) (vs : List Vv) (a : Int) (i : Int) : Bool := match vs[i.toNat]? with
  | some v => !(rb (linked ps (openQ vs false)) a v.node == rb (linked ps (openQ vs false)) a (9 + findL ps v.pipe))
  | none => false
noncomputable def aroundI (ps : List Pp) (vs : List Vv) (a : Int) (k : Nat) : List Int := (upTo k).filter (arQ ps vs a)
theorem aroundI_len (ps : List Pp) (vs : List Vv) (a : Int) (k : Nat) : (aroundI ps vs a k).length ≤ k := by
  unfold aroundI; have := List.length_filter_le (arQ ps vs a) (upTo k); rw [upTo_len] at this; exact this
theorem aroundI_in {ps : List Pp} {vs : List Vv} {a : Int} {k : Nat} {y : Int} (h : y ∈ aroundI ps vs a k) : 0 ≤ y ∧ y < k := by
  unfold aroundI at h; exact mem_upTo.1 (List.mem_filter.1 h).1
theorem aroundI_yes {ps : List Pp} {vs : List Vv} {a : Int} {i : Nat} {x : Vv} (hx : vs[i]? = some x) (h : rb (linked ps (openQ vs false)) a x.node ≠ rb (linked ps (openQ vs false)) a (9 + findL ps x.pipe)) : aroundI ps vs a (i + 1) = aroundI ps vs a i ++ [(i : Int)] := by
  unfold aroundI; rw [upTo_succ, List.filter_append, List.filter_cons_of_pos (by unfold arQ; rw [Int.toNat_natCast, hx]; simpa using h)]; rfl
theorem aroundI_no {ps : List Pp} {vs : List Vv} {a : Int} {i : Nat} {x : Vv} (hx : vs[i]? = some x) (h : rb (linked ps (openQ vs false)) a x.node = rb (linked ps (openQ vs false)) a (9 + findL ps x.pipe)) : aroundI ps vs a (i + 1) = aroundI ps vs a i := by
  unfold aroundI; rw [upTo_succ, List.filter_append, List.filter_cons_of_neg (by unfold arQ; rw [Int.toNat_natCast, hx]; simp [h]), List.filter_nil, List.append_nil]
def idsV (vs : List Vv) (xs : List Int) : List Int := xs.map (fun i => match vs[i.toNat]? with | some v => v.id | none => 0)
theorem idsV_len (vs : List Vv) (xs : List Int) : (idsV vs xs).length = xs.length := by simp [idsV]
theorem idsV_take {vs : List Vv} {xs : List Int} {i : Nat} {y : Int} {v : Vv} (hy : xs[i]? = some y) (hp : vs[y.toNat]? = some v) : idsV vs (xs.take (i + 1)) = idsV vs (xs.take i) ++ [v.id] := by
  rw [List.take_add_one, hy]; simp [idsV, hp]
def ValvesAround_v1 (m : Int) (ps : List Pp) (vs : List Vv) (a : Int) : Bool := goodV m ps vs && decide (0 ≤ findL ps a)
noncomputable def ValvesAround_v0 (m : Int) (ps : List Pp) (vs : List Vv) (a : Int) : List Int := if ValvesAround_v1 m ps vs a = true then idsV vs (aroundI ps vs (9 + findL ps a) vs.length) else []
theorem ValvesAround_len (m : Int) (ps : List Pp) (vs : List Vv) (a : Int) : (ValvesAround_v0 m ps vs a).length ≤ 1048576 := by
  unfold ValvesAround_v0
  split
  · rename_i h
    have hg : goodV m ps vs = true := by unfold ValvesAround_v1 at h; rw [Bool.and_eq_true] at h; exact h.1
    have := (goodV_of hg).len
    rw [idsV_len]
    have := aroundI_len ps vs (9 + findL ps a) vs.length
    omega
  · simp
set_option maxRecDepth 100000 in
set_option maxHeartbeats 8000000 in
theorem valvesAround_any (m : Int) (A : Option Addr) (n c : Nat) (ps : List Pp) (A2 : Option Addr) (n2 c2 : Nat) (vs : List Vv) (a : Int) (w : World) (ha : Rd w 4 A n (pipesV ps)) (hb : Rd w 4 A2 n2 (valvesV vs)) (hn : n ≤ 1048576) (hn2 : n2 ≤ 1048576) (hv9 : GoodVal m ps vs) (hfa : 0 ≤ findL ps a) :
    Calls Try.prog 85 #[.agg #[.int .i64 m, .slice A n c], .slice A2 n2 c2, .int .i64 a] w fun e w' => ∃ A' n' c', e = .returned (.slice A' n' c') ∧ w'.ownsRow w.heap.size 3 1 (.slice A' n' c') n' (intsV (aroundI ps vs (9 + findL ps a) vs.length)) ∧ Below w.heap.size w w' := by
 have hl := rd_pipes_len ha
 have hl2 := rd_valves_len hb
 have hg := hv9.net
 have hgl := hg.lo
 have hgh := hg.hi
 have hp := hg.pipesIn
 have hlen10 := hg.len
 have hu := hv9.uniq
 have hvl := hv9.len
 have hfl := findL_lt ps a
 go_enter Try.func85, Try.ntmps85
 refine F.begin 48 [(0, .agg #[.int .i64 m, .slice A n c]), (1, .slice A2 n2 c2), (2, .int .i64 a)] (fun U0 => ?_)
 refine wk fun K1 h1 => ?_
 refine W.region_plain (row := none) [(0, true), (1, false)] kk ?_
 have s1 := SG.self w none
 refine W.sn (fun b => .pointer (some ⟨b, 0, none⟩)) #[.int .i64 m, .slice A n c] 26 s1 rfl kk rfl (fun _ => by kernel_rfl) (fun b2 w3 hb4 k5 x6 s7 => ?_)
 refine F.nx ?_
 have lo8 : w.heap.size ≤ b2 := Nat.le_trans ((SG.belowR (Below.refl _ _) s1 (fun kq e => by cases e))).size (Nat.le_of_eq hb4)
 refine Fa (.slice none 0 0) ?_
 refine F.es ?_
 have c9 := (SG.belowR (Below.refl _ _) s7 (fun kq e => by cases e))
 refine h1 _ _ ?_
 refine wk fun K2 h2 => ?_
 refine W.region_sch (row := none) (Sch.app [(0, false), (1, false), (2, false), (3, false)] (.br 4 7 (Sch.app [] (.br 5 7 (Sch.app [] (.br 6 7 (Sch.of [(8, false), (7, true), (9, false)]) (Sch.of [(6, true), (8, false), (9, false)]))) (Sch.of [(5, true), (6, true), (8, false), (9, false)]))) (Sch.of [(4, true), (5, true), (6, true), (8, false), (9, false)]))) kk kk (fun _ d _ _ _ h => by cases d <;> exact h) kk (fun w10 e11 s12 => ?_)
 refine Fq (.agg #[.int .i64 m, .slice A n c]) (r_load2 rfl ek kk kk (sgS (blk_cell (j := 0) x6 kk) (Option.some_ne_none _)) (sgS (blk_cell (j := 1) x6 kk) (Option.some_ne_none _))) ?_
 refine Fv (.slice A2 n2 c2) ?_
 refine Fq (.agg #[.int .i64 m, .slice A n c]) (r_load2 rfl ek kk kk (sgS (blk_cell (j := 0) x6 kk) (Option.some_ne_none _)) (sgS (blk_cell (j := 1) x6 kk) (Option.some_ne_none _))) ?_
 refine Fv (.int .i64 a) ?_
 refine W.sbr ?_ ?_
 ·refine Fc [.agg #[.int .i64 m, .slice A n c], .int .i64 a] (pipeIndex_any m A n c ps a _ (Rd.kept ha (SG.belowR c9 s12 (fun kq e => by cases e))) (by omega)) ?_
  rintro e w14 ⟨rfl, b13⟩
  have s15 := SG.of_below s12 b13
  refine ⟨_, rfl, s15, ?_⟩
  refine F.nx ?_
  refine W.sbr ?_ ?_
  ·refine Fc [.int .i64 (findL ps a)] (element_any (findL ps a) _ (by omega)) ?_
   rintro e w' ⟨rfl, rfl⟩
   refine ⟨_, rfl, s15, ?_⟩
   refine F.nx ?_
   refine W.sbr ?_ ?_
   ·refine Fc [.agg #[.int .i64 m, .slice A n c], .slice A2 n2 c2, .int .i64 (9 + (findL ps a))] (segmentOf_any m A n c ps A2 n2 c2 vs (9 + (findL ps a)) (9 + (findL ps a)).toNat _ (Rd.kept ha (SG.belowR c9 s15 (fun kq e => by cases e))) (Rd.kept hb (SG.belowR c9 s15 (fun kq e => by cases e))) (by omega) (by omega) hp (by omega) (by omega) (by omega) (by omega)) ?_
    rintro e w24 ⟨pb18, rfl, lo22, rd19, b23⟩
    have s25 := SG.of_below s15 b23
    refine ⟨_, rfl, s25, ?_⟩
    refine F.nx ?_
    have hl20 := rd_bools_len rd19
    rw [wetL_len] at hl20
    have hl20 : (wetL (linked ps (openQ vs false)) (9 + (findL ps a))).length = 19 := wetL_len _ _
    refine Fa (.pointer (some ⟨pb18, 0, none⟩)) ?_
    refine W.sn (fun b => .slice (some ⟨b, 0, none⟩) 0 0) #[] 3 s25 rfl kk rfl (fun _ => by kernel_rfl) (fun b27 w28 hb29 k30 x31 s32 => ?_)
    refine F.nx ?_
    have lo33 : w.heap.size ≤ b27 := Nat.le_trans ((SG.belowR c9 s25 (fun kq e => by cases e))).size (Nat.le_of_eq hb29)
    have sp34 : Sp (some ⟨pb18, 0, none⟩) 19 (some b27) := sp_new rd19 (by have := hb29; omega)
    have ne35 : b2 ≠ b27 := Nat.ne_of_lt (Nat.lt_of_lt_of_eq (Nat.lt_of_lt_of_le (blk_lt x6) (s25).size) hb29)
    have rd36 := Rd.kept rd19 k30
    refine Fa (.slice (some ⟨b27, 0, none⟩) 0 0) ?_
    refine F.es ?_
    have x6 := SG.blk s32 x6 (Option.some_ne_none _)
    have c37 := (SG.belowR c9 s32 (fun kq e => by cases e))
    refine h2 _ _ ?_
    refine wk fun K3 h3 => ?_
    refine wk fun K4 h4 => ?_
    refine W.region_quiet [(0, false), (1, false), (2, false)] kk ?_
    refine Fv (.slice A2 n2 c2) ?_
    refine Fq (.int .i64 (n2 : Int)) (r_len (A := A2) (n := n2) (c := c2) rfl ek kk) ?_
    refine Fv (.int .i64 0) ?_
    refine F.es ?_
    refine h4 _ _ ?_
    refine wp_block ?_
    have ho38 := own_empty (base := w.heap.size) (size := 1) x31 lo33
    replace ho38 : World.ownsRow _ _ _ _ _ _ (intsV []) := ho38
    have sp39 := sp_own (n' := 0) (c := 0) sp34
    have nb40 : Nb b2 (.slice (some ⟨b27, 0, none⟩) 0 0) := nb_new ne35
    refine loopK (fun am0 aa0 wl0 => ∃ (i : Nat) (A0_8 : Option Addr) (n0_8 : Nat) (c0_8 : Nat) , Kn aa0 [(0, .agg #[.int .i64 m, .slice A n c]), (1, .slice A2 n2 c2), (2, .int .i64 a), (3, .pointer (some ⟨b2, 0, none⟩)), (6, .slice none 0 0), (7, .pointer (some ⟨pb18, 0, none⟩)), (8, .slice A0_8 n0_8 c0_8), (19, .slice A2 n2 c2), (20, .int .i64 (n2 : Int)), (21, .int .i64 (i : Int))] 48 ∧ (am0 = n2 - i) ∧ (i ≤ n2) ∧ (n0_8 ≤ i) ∧ (wl0.heap[b2]? = some (.cells #[.int .i64 m, .slice A n c] 26 (0, 0))) ∧ (wl0.ownsRow w.heap.size 3 1 (.slice A0_8 n0_8 c0_8) n0_8 (intsV (aroundI ps vs (9 + findL ps a) i))) ∧ (Nb b2 (.slice A0_8 n0_8 c0_8)) ∧ (Rd wl0 1 (some ⟨pb18, 0, none⟩) 19 (boolsV (wetL (linked ps (openQ vs false)) (9 + (findL ps a))))) ∧ (Sp (some ⟨pb18, 0, none⟩) 19 (Value.ownBlock (.slice A0_8 n0_8 c0_8))) ∧ (Below w.heap.size w wl0)) (n2 - 0) ?_ ?_
    ·exact ⟨0, (some ⟨b27, 0, none⟩), 0, 0, Kn.of, rfl, (Nat.zero_le _), (Nat.zero_le _), x6, ho38, nb40, rd36, sp39, c37⟩
    rintro am0 aa0 wl0 K5 h5 ⟨i, A0_8, n0_8, c0_8, ⟨U0, rfl⟩, rfl, hi, hb8, x6, ho0_8, nb0_8_b2, rd0_7, sp0_7_8, c41⟩
    refine wk fun K6 h6 => ?_
    refine W.region_quiet [(0, false)] kk ?_
    by_cases q42 : ((i : Int) : Int) < ((n2 : Int) : Int)
    ·refine Fq (.bool true) (r_lss (m := (i : Int)) (n := (n2 : Int)) rfl ek ek (decide_eq_true q42)) ?_
     refine F.es ?_
     refine h6 _ _ ?_
     refine wk fun K7 h7 => ?_
     refine wp_cond_true ek ?_
     refine wp_skip ?_
     refine h7 _ _ ?_
     refine wk fun K8 h8 => ?_
     refine wp_block ?_
     refine wk fun K9 h9 => ?_
     refine W.region_plain (row := none) [(0, false), (1, false), (2, false), (3, true), (4, false), (5, true)] kk ?_
     have s43 := SG.self wl0 none
     refine Fv (.int .i64 (i : Int)) ?_
     obtain ⟨x44, hx45⟩ := get_of (zs := vs) (k := i) (by have := hl2; omega)
     obtain ⟨b46, o47, hA48, hb49, hc50, hc51, hc52, hc53⟩ := Rd.elValve hb hx45
     refine Fq (.pointer (some ⟨b46, o47 + i * 4, none⟩)) (r_idx (n := n2) (c := c2) (k := i) rfl ek hA48 kk kk (by have := hl2; omega)) ?_
     refine Fq (.agg #[.int .i64 x44.id, .int .i64 x44.pipe, .int .i64 x44.node, .bool x44.shut]) (r_load4 rfl ek kk kk (sgS (later c41 hc50) (by simp)) (sgS (later c41 hc51) (by simp)) (sgS (later c41 hc52) (by simp)) (sgS (later c41 hc53) (by simp))) ?_
     refine W.sn (fun b => .pointer (some ⟨b, 0, none⟩)) #[.int .i64 0, .int .i64 0, .int .i64 0, .bool false] 40 s43 rfl kk rfl (fun _ => by kernel_rfl) (fun b54 w55 hb56 k57 x58 s59 => ?_)
     refine F.nx ?_
     have lo60 : w.heap.size ≤ b54 := Nat.le_trans ((SG.belowR c41 s43 (fun kq e => by cases e))).size (Nat.le_of_eq hb56)
     have nb63 : Nb b54 (.slice A0_8 n0_8 c0_8) := nb_hi ho0_8 (Nat.le_of_eq hb56)
     have ho64 := own_kept ho0_8 k57
     refine Fa (.int .i64 (i : Int)) ?_
     refine W.ss (v := .agg #[.int .i64 x44.id, .int .i64 x44.pipe, .int .i64 x44.node, .bool x44.shut]) (j := 0) (news := [.int .i64 x44.id, .int .i64 x44.pipe, .int .i64 x44.node, .bool x44.shut]) (cs' := #[.int .i64 x44.id, .int .i64 x44.pipe, .int .i64 x44.node, .bool x44.shut]) s59 rfl kk rfl rfl kk kk x58 kk kk (by simp) kk kk (.inr (Nat.le_trans (s43).size (Nat.le_of_eq hb56))) (fun w65 g66 x67 s68 => ?_)
     have ho69 := own_grown ho64 g66 (fun j e1 e2 => by cases e2; exact nb63 e1.symm)
     refine F.es ?_
     have x6 := SG.blk s68 x6 (Option.some_ne_none _)
     have c70 := (SG.belowR c41 s68 (fun kq e => by cases e))
     have rd71 := Rd.kept rd0_7 (SG.below s68)
     refine h9 _ _ ?_
     refine wk fun K10 h10 => ?_
     refine W.region_sch (row := none) (Sch.of [(0, false), (1, false), (2, false), (3, false), (4, false), (5, false), (6, false), (7, false), (8, false), (9, false), (12, false), (10, true), (11, true), (13, false), (14, false), (15, false)]) kk kk (fun _ d _ _ _ h => by cases d <;> exact h) kk (fun w72 e73 s74 => ?_)
     have ho75 := own_heap ho69 e73
     refine Fv (.pointer (some ⟨pb18, 0, none⟩)) ?_
     refine Fq (.pointer (some ⟨b54, 2, none⟩)) (r_field (k := 2) rfl ek kk) ?_
     refine Fl (.int .i64 x44.node) (sgS (blk_cell (j := 2) x67 kk) (Option.some_ne_none _)) ?_
     refine Fq (.pointer (some ⟨pb18, 0, none⟩)) (r_nilCheck rfl ek) ?_
     obtain ⟨kz, pz, ekz, hkz, hpz, hnz⟩ := hv9.place x44 (List.mem_of_getElem? hx45)
     have hgz := hg.at hpz
     obtain ⟨x76, hx77⟩ := get_of (zs := (wetL (linked ps (openQ vs false)) (9 + (findL ps a)))) (k := x44.node.toNat) (by have := hl20; omega)
     obtain ⟨hb78, hc79⟩ := Rd.elBool rd71 hx77
     refine Fq (.pointer (some ⟨pb18, x44.node.toNat, none⟩)) (r_idxA (len := 19) (k := x44.node.toNat) rfl ek (evk (z := x44.node) kk (by omega)) kk (by omega)) ?_
     refine Fl (.bool x76) (sgS hc79 (by simp)) ?_
     refine Fv (.pointer (some ⟨pb18, 0, none⟩)) ?_
     refine Fq (.agg #[.int .i64 m, .slice A n c]) (r_load2 rfl ek kk kk (sgS (blk_cell (j := 0) x6 kk) (Option.some_ne_none _)) (sgS (blk_cell (j := 1) x6 kk) (Option.some_ne_none _))) ?_
     refine Fq (.pointer (some ⟨b54, 1, none⟩)) (r_field (k := 1) rfl ek kk) ?_
     refine Fl (.int .i64 x44.pipe) (sgS (blk_cell (j := 1) x67 kk) (Option.some_ne_none _)) ?_
     refine Fq (.pointer (some ⟨pb18, 0, none⟩)) (r_nilCheck rfl ek) ?_
     refine Fc [.agg #[.int .i64 m, .slice A n c], .int .i64 x44.pipe] (pipeIndex_any m A n c ps x44.pipe _ (Rd.kept ha (SG.belowR c70 s74 (fun kq e => by cases e))) (by omega)) ?_
     rintro e w81 ⟨rfl, b80⟩
     have s82 := SG.of_below s74 b80
     refine ⟨_, rfl, s82, ?_⟩
     refine F.nx ?_
     have ho83 := own_kept ho75 b80
     refine Fc [.int .i64 (findL ps x44.pipe)] (element_any (findL ps x44.pipe) _ (by omega)) ?_
     rintro e w' ⟨rfl, rfl⟩
     refine ⟨_, rfl, s82, ?_⟩
     refine F.nx ?_
     obtain ⟨x86, hx87⟩ := get_of (zs := (wetL (linked ps (openQ vs false)) (9 + (findL ps a)))) (k := (9 + kz)) (by have := hl20; omega)
     obtain ⟨hb88, hc89⟩ := Rd.elBool rd71 hx87
     refine Fq (.pointer (some ⟨pb18, (9 + kz), none⟩)) (r_idxA (len := 19) (k := (9 + kz)) rfl ek (evk (z := 9 + (findL ps x44.pipe)) kk (by omega)) kk (by omega)) ?_
     refine Fl (.bool x86) (sgS hc89 (by simp)) ?_
     by_cases q90 : x76 = x86
     ·refine Fq (.bool false) (r_neqB (m := x76) (n := x86) rfl ek ek kk (by rw [(beq_iff_eq.2 q90)]; try rfl)) ?_
      refine F.es ?_
      have x6 := SG.blk s82 x6 (Option.some_ne_none _)
      have c91 := (SG.belowR c70 s82 (fun kq e => by cases e))
      have rd92 := Rd.kept rd71 (SG.below s82)
      refine h10 _ _ ?_
      refine wp_cond_false ek ?_
      refine wp_skip ?_
      refine h8 _ _ ?_
      refine W.region_quiet [(0, false), (1, false)] kk ?_
      refine Fq (.int .i64 ((i + 1 : Nat) : Int)) (r_add (m := (i : Int)) (n := 1) (z := ((i + 1 : Nat) : Int)) rfl ek ek (by omega) (by omega)) ?_
      refine Fv (.int .i64 ((i + 1 : Nat) : Int)) ?_
      refine F.es ?_
      exact h5 _ _ _ (by omega : (n2 - (i + 1)) < _) ⟨i + 1, A0_8, n0_8, c0_8, Kn.of, rfl, (by omega), (by omega), x6, (by rw [aroundI_no hx45 (by have h9 := wet_eqI (b := x44.node) hx77 (by omega); have h8 := wet_eqI (b := 9 + findL ps x44.pipe) hx87 (by omega); rw [← h9, ← h8]; exact q90)]; exact ho83), nb0_8_b2, rd92, sp0_7_8, c91⟩
     refine Fq (.bool true) (r_neqB (m := x76) (n := x86) rfl ek ek kk (by rw [(beq_eq_false_iff_ne.2 q90)]; try rfl)) ?_
     refine F.es ?_
     have x6 := SG.blk s82 x6 (Option.some_ne_none _)
     have c93 := (SG.belowR c70 s82 (fun kq e => by cases e))
     have rd94 := Rd.kept rd71 (SG.below s82)
     refine h10 _ _ ?_
     refine wp_cond_true ek ?_
     refine W.region_plain (row := (Value.ownBlock (.slice A0_8 n0_8 c0_8))) [(0, false), (1, false), (2, true), (3, true), (4, false)] kk ?_
     have s95 := SG.self w81 (Value.ownBlock (.slice A0_8 n0_8 c0_8))
     refine Fv (.slice A0_8 n0_8 c0_8) ?_
     refine Fv (.int .i64 (i : Int)) ?_
     refine W.sn (fun b => .slice (some ⟨b, 0, none⟩) 1 1) #[.int .i64 (i : Int)] 3 s95 rfl kk rfl (fun _ => by kernel_rfl) (fun b96 w97 hb98 k99 x100 s101 => ?_)
     refine F.nx ?_
     have lo102 : w.heap.size ≤ b96 := Nat.le_trans ((SG.belowR c93 s95 (fun kq e => (World.ownsRow.lt ho83 kq e).1))).size (Nat.le_of_eq hb98)
     have ho107 := own_kept ho83 k99
     refine W.sap (e := 3) (size := 1) (base := w.heap.size) (m := 1) (v := .slice A0_8 n0_8 c0_8) (c := 1) s101 rfl rfl rfl rfl kk kk kk ho107 x100 kk kk (by omega) (by omega) (by have := ((SG.belowR c93 s101 (fun kq e => (World.ownsRow.lt ho83 kq e).1))).size; omega) (.inl rfl) (fun g108 cap109 w110 ho111 hg112 hat113 hlt114 s115 => ?_)
     refine F.nx ?_
     have nb116 : Nb b2 (.slice (some ⟨g108, 0, none⟩) (n0_8 + 1) cap109) := nb_app nb0_8_b2 (Nat.lt_of_lt_of_le (blk_lt x6) (s101).size) hat113
     have ho111 := own_snoc ho111
     have sp119 := sp_app (v' := .slice (some ⟨g108, 0, none⟩) (n0_8 + 1) cap109) sp0_7_8 rd94 ((s101).size) (hat3 (v := .slice A0_8 n0_8 c0_8) hat113)
     refine Fa (.slice (some ⟨g108, 0, none⟩) (n0_8 + 1) cap109) ?_
     refine F.es ?_
     have x6 := SG.blk s115 x6 nb0_8_b2
     have c120 := (SG.belowR c93 s115 (fun kq e => (World.ownsRow.lt ho83 kq e).1))
     have rd121 := rd_sep rd94 s115 sp0_7_8
     refine h8 _ _ ?_
     refine W.region_quiet [(0, false), (1, false)] kk ?_
     refine Fq (.int .i64 ((i + 1 : Nat) : Int)) (r_add (m := (i : Int)) (n := 1) (z := ((i + 1 : Nat) : Int)) rfl ek ek (by omega) (by omega)) ?_
     refine Fv (.int .i64 ((i + 1 : Nat) : Int)) ?_
     refine F.es ?_
     exact h5 _ _ _ (by omega : (n2 - (i + 1)) < _) ⟨i + 1, (some ⟨g108, 0, none⟩), (n0_8 + 1), cap109, Kn.of, rfl, (by omega), (by omega), x6, (by rw [aroundI_yes hx45 (by have h9 := wet_eqI (b := x44.node) hx77 (by omega); have h8 := wet_eqI (b := 9 + findL ps x44.pipe) hx87 (by omega); rw [← h9, ← h8]; exact q90)]; exact ho111), nb116, rd121, sp119, c120⟩
    refine Fq (.bool false) (r_lss (m := (i : Int)) (n := (n2 : Int)) rfl ek ek (decide_eq_false q42)) ?_
    refine F.es ?_
    refine h6 _ _ ?_
    refine wk fun K11 h11 => ?_
    refine wp_cond_false ek ?_
    refine wp_exit ?_
    refine h3 _ _ ?_
    refine wk fun K12 h12 => ?_
    refine W.region_quiet [(0, false), (1, false)] kk ?_
    refine Fv (.slice A0_8 n0_8 c0_8) ?_
    refine Fa (.slice A0_8 n0_8 c0_8) ?_
    refine F.es ?_
    refine h12 _ _ ?_
    refine wp_ret ?_
    try simp only [Exit.then]
    refine ret1 (v := .slice A0_8 n0_8 c0_8) rfl kk ?_
    exact ⟨_, _, _, rfl, (by rw [show vs.length = i by omega]; exact ho0_8), c41⟩
   refine W.sn (fun b => .slice (some ⟨b, 0, none⟩) 0 0) #[] 3 s15 rfl kk rfl (fun _ => by kernel_rfl) (fun b122 w123 hb124 k125 x126 s127 => ?_)
   refine F.nx ?_
   have lo128 : w.heap.size ≤ b122 := Nat.le_trans ((SG.belowR c9 s15 (fun kq e => by cases e))).size (Nat.le_of_eq hb124)
   have ne129 : b2 ≠ b122 := Nat.ne_of_lt (Nat.lt_of_lt_of_eq (Nat.lt_of_lt_of_le (blk_lt x6) (s15).size) hb124)
   have lb135 := blk_lt x126
   refine Fc [.agg #[.int .i64 m, .slice A n c], .slice A2 n2 c2, .int .i64 (9 + (findL ps a))] (segmentOf_any m A n c ps A2 n2 c2 vs (9 + (findL ps a)) (9 + (findL ps a)).toNat _ (Rd.kept ha (SG.belowR c9 s127 (fun kq e => by cases e))) (Rd.kept hb (SG.belowR c9 s127 (fun kq e => by cases e))) (by omega) (by omega) hp (by omega) (by omega) (by omega) (by omega)) ?_
   rintro e w137 ⟨pb130, rfl, lo134, rd131, b136⟩
   have s138 := SG.of_below s127 b136
   refine ⟨_, rfl, s138, ?_⟩
   refine F.nx ?_
   have x126 := (b136.block _ (blk_lt x126)).trans x126
   have sp140 : Sp (some ⟨pb130, 0, none⟩) 19 (some b122) := sp_ptrB (Nat.lt_of_lt_of_le lb135 lo134)
   have hl132 := rd_bools_len rd131
   rw [wetL_len] at hl132
   have hl132 : (wetL (linked ps (openQ vs false)) (9 + (findL ps a))).length = 19 := wetL_len _ _
   refine Fa (.pointer (some ⟨pb130, 0, none⟩)) ?_
   refine Fa (.slice (some ⟨b122, 0, none⟩) 0 0) ?_
   refine F.es ?_
   have x6 := SG.blk s138 x6 (Option.some_ne_none _)
   have c141 := (SG.belowR c9 s138 (fun kq e => by cases e))
   refine h2 _ _ ?_
   refine wk fun K13 h13 => ?_
   refine wk fun K14 h14 => ?_
   refine W.region_quiet [(0, false), (1, false), (2, false)] kk ?_
   refine Fv (.slice A2 n2 c2) ?_
   refine Fq (.int .i64 (n2 : Int)) (r_len (A := A2) (n := n2) (c := c2) rfl ek kk) ?_
   refine Fv (.int .i64 0) ?_
   refine F.es ?_
   refine h14 _ _ ?_
   refine wp_block ?_
   have ho142 := own_empty (base := w.heap.size) (size := 1) x126 lo128
   replace ho142 : World.ownsRow _ _ _ _ _ _ (intsV []) := ho142
   have sp143 := sp_own (n' := 0) (c := 0) sp140
   have nb144 : Nb b2 (.slice (some ⟨b122, 0, none⟩) 0 0) := nb_new ne129
   refine loopK (fun am0 aa0 wl0 => ∃ (i : Nat) (A0_8 : Option Addr) (n0_8 : Nat) (c0_8 : Nat) , Kn aa0 [(0, .agg #[.int .i64 m, .slice A n c]), (1, .slice A2 n2 c2), (2, .int .i64 a), (3, .pointer (some ⟨b2, 0, none⟩)), (6, .slice none 0 0), (7, .pointer (some ⟨pb130, 0, none⟩)), (8, .slice A0_8 n0_8 c0_8), (19, .slice A2 n2 c2), (20, .int .i64 (n2 : Int)), (21, .int .i64 (i : Int))] 48 ∧ (am0 = n2 - i) ∧ (i ≤ n2) ∧ (n0_8 ≤ i) ∧ (wl0.heap[b2]? = some (.cells #[.int .i64 m, .slice A n c] 26 (0, 0))) ∧ (wl0.ownsRow w.heap.size 3 1 (.slice A0_8 n0_8 c0_8) n0_8 (intsV (aroundI ps vs (9 + findL ps a) i))) ∧ (Nb b2 (.slice A0_8 n0_8 c0_8)) ∧ (Rd wl0 1 (some ⟨pb130, 0, none⟩) 19 (boolsV (wetL (linked ps (openQ vs false)) (9 + (findL ps a))))) ∧ (Sp (some ⟨pb130, 0, none⟩) 19 (Value.ownBlock (.slice A0_8 n0_8 c0_8))) ∧ (Below w.heap.size w wl0)) (n2 - 0) ?_ ?_
   ·exact ⟨0, (some ⟨b122, 0, none⟩), 0, 0, Kn.of, rfl, (Nat.zero_le _), (Nat.zero_le _), x6, ho142, nb144, rd131, sp143, c141⟩
   rintro am0 aa0 wl0 K15 h15 ⟨i, A0_8, n0_8, c0_8, ⟨U0, rfl⟩, rfl, hi, hb8, x6, ho0_8, nb0_8_b2, rd0_7, sp0_7_8, c145⟩
   refine wk fun K16 h16 => ?_
   refine W.region_quiet [(0, false)] kk ?_
   by_cases q146 : ((i : Int) : Int) < ((n2 : Int) : Int)
   ·refine Fq (.bool true) (r_lss (m := (i : Int)) (n := (n2 : Int)) rfl ek ek (decide_eq_true q146)) ?_
    refine F.es ?_
    refine h16 _ _ ?_
    refine wk fun K17 h17 => ?_
    refine wp_cond_true ek ?_
    refine wp_skip ?_
    refine h17 _ _ ?_
    refine wk fun K18 h18 => ?_
    refine wp_block ?_
    refine wk fun K19 h19 => ?_
    refine W.region_plain (row := none) [(0, false), (1, false), (2, false), (3, true), (4, false), (5, true)] kk ?_
    have s147 := SG.self wl0 none
    refine Fv (.int .i64 (i : Int)) ?_
    obtain ⟨x148, hx149⟩ := get_of (zs := vs) (k := i) (by have := hl2; omega)
    obtain ⟨b150, o151, hA152, hb153, hc154, hc155, hc156, hc157⟩ := Rd.elValve hb hx149
    refine Fq (.pointer (some ⟨b150, o151 + i * 4, none⟩)) (r_idx (n := n2) (c := c2) (k := i) rfl ek hA152 kk kk (by have := hl2; omega)) ?_
    refine Fq (.agg #[.int .i64 x148.id, .int .i64 x148.pipe, .int .i64 x148.node, .bool x148.shut]) (r_load4 rfl ek kk kk (sgS (later c145 hc154) (by simp)) (sgS (later c145 hc155) (by simp)) (sgS (later c145 hc156) (by simp)) (sgS (later c145 hc157) (by simp))) ?_
    refine W.sn (fun b => .pointer (some ⟨b, 0, none⟩)) #[.int .i64 0, .int .i64 0, .int .i64 0, .bool false] 40 s147 rfl kk rfl (fun _ => by kernel_rfl) (fun b158 w159 hb160 k161 x162 s163 => ?_)
    refine F.nx ?_
    have lo164 : w.heap.size ≤ b158 := Nat.le_trans ((SG.belowR c145 s147 (fun kq e => by cases e))).size (Nat.le_of_eq hb160)
    have nb167 : Nb b158 (.slice A0_8 n0_8 c0_8) := nb_hi ho0_8 (Nat.le_of_eq hb160)
    have ho168 := own_kept ho0_8 k161
    refine Fa (.int .i64 (i : Int)) ?_
    refine W.ss (v := .agg #[.int .i64 x148.id, .int .i64 x148.pipe, .int .i64 x148.node, .bool x148.shut]) (j := 0) (news := [.int .i64 x148.id, .int .i64 x148.pipe, .int .i64 x148.node, .bool x148.shut]) (cs' := #[.int .i64 x148.id, .int .i64 x148.pipe, .int .i64 x148.node, .bool x148.shut]) s163 rfl kk rfl rfl kk kk x162 kk kk (by simp) kk kk (.inr (Nat.le_trans (s147).size (Nat.le_of_eq hb160))) (fun w169 g170 x171 s172 => ?_)
    have ho173 := own_grown ho168 g170 (fun j e1 e2 => by cases e2; exact nb167 e1.symm)
    refine F.es ?_
    have x6 := SG.blk s172 x6 (Option.some_ne_none _)
    have c174 := (SG.belowR c145 s172 (fun kq e => by cases e))
    have rd175 := Rd.kept rd0_7 (SG.below s172)
    refine h19 _ _ ?_
    refine wk fun K20 h20 => ?_
    refine W.region_sch (row := none) (Sch.of [(0, false), (1, false), (2, false), (3, false), (4, false), (5, false), (6, false), (7, false), (8, false), (9, false), (12, false), (10, true), (11, true), (13, false), (14, false), (15, false)]) kk kk (fun _ d _ _ _ h => by cases d <;> exact h) kk (fun w176 e177 s178 => ?_)
    have ho179 := own_heap ho173 e177
    refine Fv (.pointer (some ⟨pb130, 0, none⟩)) ?_
    refine Fq (.pointer (some ⟨b158, 2, none⟩)) (r_field (k := 2) rfl ek kk) ?_
    refine Fl (.int .i64 x148.node) (sgS (blk_cell (j := 2) x171 kk) (Option.some_ne_none _)) ?_
    refine Fq (.pointer (some ⟨pb130, 0, none⟩)) (r_nilCheck rfl ek) ?_
    obtain ⟨kz, pz, ekz, hkz, hpz, hnz⟩ := hv9.place x148 (List.mem_of_getElem? hx149)
    have hgz := hg.at hpz
    obtain ⟨x180, hx181⟩ := get_of (zs := (wetL (linked ps (openQ vs false)) (9 + (findL ps a)))) (k := x148.node.toNat) (by have := hl132; omega)
    obtain ⟨hb182, hc183⟩ := Rd.elBool rd175 hx181
    refine Fq (.pointer (some ⟨pb130, x148.node.toNat, none⟩)) (r_idxA (len := 19) (k := x148.node.toNat) rfl ek (evk (z := x148.node) kk (by omega)) kk (by omega)) ?_
    refine Fl (.bool x180) (sgS hc183 (by simp)) ?_
    refine Fv (.pointer (some ⟨pb130, 0, none⟩)) ?_
    refine Fq (.agg #[.int .i64 m, .slice A n c]) (r_load2 rfl ek kk kk (sgS (blk_cell (j := 0) x6 kk) (Option.some_ne_none _)) (sgS (blk_cell (j := 1) x6 kk) (Option.some_ne_none _))) ?_
    refine Fq (.pointer (some ⟨b158, 1, none⟩)) (r_field (k := 1) rfl ek kk) ?_
    refine Fl (.int .i64 x148.pipe) (sgS (blk_cell (j := 1) x171 kk) (Option.some_ne_none _)) ?_
    refine Fq (.pointer (some ⟨pb130, 0, none⟩)) (r_nilCheck rfl ek) ?_
    refine Fc [.agg #[.int .i64 m, .slice A n c], .int .i64 x148.pipe] (pipeIndex_any m A n c ps x148.pipe _ (Rd.kept ha (SG.belowR c174 s178 (fun kq e => by cases e))) (by omega)) ?_
    rintro e w185 ⟨rfl, b184⟩
    have s186 := SG.of_below s178 b184
    refine ⟨_, rfl, s186, ?_⟩
    refine F.nx ?_
    have ho187 := own_kept ho179 b184
    refine Fc [.int .i64 (findL ps x148.pipe)] (element_any (findL ps x148.pipe) _ (by omega)) ?_
    rintro e w' ⟨rfl, rfl⟩
    refine ⟨_, rfl, s186, ?_⟩
    refine F.nx ?_
    obtain ⟨x190, hx191⟩ := get_of (zs := (wetL (linked ps (openQ vs false)) (9 + (findL ps a)))) (k := (9 + kz)) (by have := hl132; omega)
    obtain ⟨hb192, hc193⟩ := Rd.elBool rd175 hx191
    refine Fq (.pointer (some ⟨pb130, (9 + kz), none⟩)) (r_idxA (len := 19) (k := (9 + kz)) rfl ek (evk (z := 9 + (findL ps x148.pipe)) kk (by omega)) kk (by omega)) ?_
    refine Fl (.bool x190) (sgS hc193 (by simp)) ?_
    by_cases q194 : x180 = x190
    ·refine Fq (.bool false) (r_neqB (m := x180) (n := x190) rfl ek ek kk (by rw [(beq_iff_eq.2 q194)]; try rfl)) ?_
     refine F.es ?_
     have x6 := SG.blk s186 x6 (Option.some_ne_none _)
     have c195 := (SG.belowR c174 s186 (fun kq e => by cases e))
     have rd196 := Rd.kept rd175 (SG.below s186)
     refine h20 _ _ ?_
     refine wp_cond_false ek ?_
     refine wp_skip ?_
     refine h18 _ _ ?_
     refine W.region_quiet [(0, false), (1, false)] kk ?_
     refine Fq (.int .i64 ((i + 1 : Nat) : Int)) (r_add (m := (i : Int)) (n := 1) (z := ((i + 1 : Nat) : Int)) rfl ek ek (by omega) (by omega)) ?_
     refine Fv (.int .i64 ((i + 1 : Nat) : Int)) ?_
     refine F.es ?_
     exact h15 _ _ _ (by omega : (n2 - (i + 1)) < _) ⟨i + 1, A0_8, n0_8, c0_8, Kn.of, rfl, (by omega), (by omega), x6, (by rw [aroundI_no hx149 (by have h9 := wet_eqI (b := x148.node) hx181 (by omega); have h8 := wet_eqI (b := 9 + findL ps x148.pipe) hx191 (by omega); rw [← h9, ← h8]; exact q194)]; exact ho187), nb0_8_b2, rd196, sp0_7_8, c195⟩
    refine Fq (.bool true) (r_neqB (m := x180) (n := x190) rfl ek ek kk (by rw [(beq_eq_false_iff_ne.2 q194)]; try rfl)) ?_
    refine F.es ?_
    have x6 := SG.blk s186 x6 (Option.some_ne_none _)
    have c197 := (SG.belowR c174 s186 (fun kq e => by cases e))
    have rd198 := Rd.kept rd175 (SG.below s186)
    refine h20 _ _ ?_
    refine wp_cond_true ek ?_
    refine W.region_plain (row := (Value.ownBlock (.slice A0_8 n0_8 c0_8))) [(0, false), (1, false), (2, true), (3, true), (4, false)] kk ?_
    have s199 := SG.self w185 (Value.ownBlock (.slice A0_8 n0_8 c0_8))
    refine Fv (.slice A0_8 n0_8 c0_8) ?_
    refine Fv (.int .i64 (i : Int)) ?_
    refine W.sn (fun b => .slice (some ⟨b, 0, none⟩) 1 1) #[.int .i64 (i : Int)] 3 s199 rfl kk rfl (fun _ => by kernel_rfl) (fun b200 w201 hb202 k203 x204 s205 => ?_)
    refine F.nx ?_
    have lo206 : w.heap.size ≤ b200 := Nat.le_trans ((SG.belowR c197 s199 (fun kq e => (World.ownsRow.lt ho187 kq e).1))).size (Nat.le_of_eq hb202)
    have ho211 := own_kept ho187 k203
    refine W.sap (e := 3) (size := 1) (base := w.heap.size) (m := 1) (v := .slice A0_8 n0_8 c0_8) (c := 1) s205 rfl rfl rfl rfl kk kk kk ho211 x204 kk kk (by omega) (by omega) (by have := ((SG.belowR c197 s205 (fun kq e => (World.ownsRow.lt ho187 kq e).1))).size; omega) (.inl rfl) (fun g212 cap213 w214 ho215 hg216 hat217 hlt218 s219 => ?_)
    refine F.nx ?_
    have nb220 : Nb b2 (.slice (some ⟨g212, 0, none⟩) (n0_8 + 1) cap213) := nb_app nb0_8_b2 (Nat.lt_of_lt_of_le (blk_lt x6) (s205).size) hat217
    have ho215 := own_snoc ho215
    have sp223 := sp_app (v' := .slice (some ⟨g212, 0, none⟩) (n0_8 + 1) cap213) sp0_7_8 rd198 ((s205).size) (hat3 (v := .slice A0_8 n0_8 c0_8) hat217)
    refine Fa (.slice (some ⟨g212, 0, none⟩) (n0_8 + 1) cap213) ?_
    refine F.es ?_
    have x6 := SG.blk s219 x6 nb0_8_b2
    have c224 := (SG.belowR c197 s219 (fun kq e => (World.ownsRow.lt ho187 kq e).1))
    have rd225 := rd_sep rd198 s219 sp0_7_8
    refine h18 _ _ ?_
    refine W.region_quiet [(0, false), (1, false)] kk ?_
    refine Fq (.int .i64 ((i + 1 : Nat) : Int)) (r_add (m := (i : Int)) (n := 1) (z := ((i + 1 : Nat) : Int)) rfl ek ek (by omega) (by omega)) ?_
    refine Fv (.int .i64 ((i + 1 : Nat) : Int)) ?_
    refine F.es ?_
    exact h15 _ _ _ (by omega : (n2 - (i + 1)) < _) ⟨i + 1, (some ⟨g212, 0, none⟩), (n0_8 + 1), cap213, Kn.of, rfl, (by omega), (by omega), x6, (by rw [aroundI_yes hx149 (by have h9 := wet_eqI (b := x148.node) hx181 (by omega); have h8 := wet_eqI (b := 9 + findL ps x148.pipe) hx191 (by omega); rw [← h9, ← h8]; exact q194)]; exact ho215), nb220, rd225, sp223, c224⟩
   refine Fq (.bool false) (r_lss (m := (i : Int)) (n := (n2 : Int)) rfl ek ek (decide_eq_false q146)) ?_
   refine F.es ?_
   refine h16 _ _ ?_
   refine wk fun K21 h21 => ?_
   refine wp_cond_false ek ?_
   refine wp_exit ?_
   refine h13 _ _ ?_
   refine wk fun K22 h22 => ?_
   refine W.region_quiet [(0, false), (1, false)] kk ?_
   refine Fv (.slice A0_8 n0_8 c0_8) ?_
   refine Fa (.slice A0_8 n0_8 c0_8) ?_
   refine F.es ?_
   refine h22 _ _ ?_
   refine wp_ret ?_
   try simp only [Exit.then]
   refine ret1 (v := .slice A0_8 n0_8 c0_8) rfl kk ?_
   exact ⟨_, _, _, rfl, (by rw [show vs.length = i by omega]; exact ho0_8), c145⟩
  refine W.sn (fun b => .slice (some ⟨b, 0, none⟩) 0 0) #[] 3 s15 rfl kk rfl (fun _ => by kernel_rfl) (fun b226 w227 hb228 k229 x230 s231 => ?_)
  refine F.nx ?_
  have lo232 : w.heap.size ≤ b226 := Nat.le_trans ((SG.belowR c9 s15 (fun kq e => by cases e))).size (Nat.le_of_eq hb228)
  have ne233 : b2 ≠ b226 := Nat.ne_of_lt (Nat.lt_of_lt_of_eq (Nat.lt_of_lt_of_le (blk_lt x6) (s15).size) hb228)
  refine Fc [.int .i64 (findL ps a)] (element_any (findL ps a) _ (by omega)) ?_
  rintro e w' ⟨rfl, rfl⟩
  refine ⟨_, rfl, s231, ?_⟩
  refine F.nx ?_
  have lb241 := blk_lt x230
  refine Fc [.agg #[.int .i64 m, .slice A n c], .slice A2 n2 c2, .int .i64 (9 + (findL ps a))] (segmentOf_any m A n c ps A2 n2 c2 vs (9 + (findL ps a)) (9 + (findL ps a)).toNat _ (Rd.kept ha (SG.belowR c9 s231 (fun kq e => by cases e))) (Rd.kept hb (SG.belowR c9 s231 (fun kq e => by cases e))) (by omega) (by omega) hp (by omega) (by omega) (by omega) (by omega)) ?_
  rintro e w243 ⟨pb236, rfl, lo240, rd237, b242⟩
  have s244 := SG.of_below s231 b242
  refine ⟨_, rfl, s244, ?_⟩
  refine F.nx ?_
  have x230 := (b242.block _ (blk_lt x230)).trans x230
  have sp246 : Sp (some ⟨pb236, 0, none⟩) 19 (some b226) := sp_ptrB (Nat.lt_of_lt_of_le lb241 lo240)
  have hl238 := rd_bools_len rd237
  rw [wetL_len] at hl238
  have hl238 : (wetL (linked ps (openQ vs false)) (9 + (findL ps a))).length = 19 := wetL_len _ _
  refine Fa (.pointer (some ⟨pb236, 0, none⟩)) ?_
  refine Fa (.slice (some ⟨b226, 0, none⟩) 0 0) ?_
  refine F.es ?_
  have x6 := SG.blk s244 x6 (Option.some_ne_none _)
  have c247 := (SG.belowR c9 s244 (fun kq e => by cases e))
  refine h2 _ _ ?_
  refine wk fun K23 h23 => ?_
  refine wk fun K24 h24 => ?_
  refine W.region_quiet [(0, false), (1, false), (2, false)] kk ?_
  refine Fv (.slice A2 n2 c2) ?_
  refine Fq (.int .i64 (n2 : Int)) (r_len (A := A2) (n := n2) (c := c2) rfl ek kk) ?_
  refine Fv (.int .i64 0) ?_
  refine F.es ?_
  refine h24 _ _ ?_
  refine wp_block ?_
  have ho248 := own_empty (base := w.heap.size) (size := 1) x230 lo232
  replace ho248 : World.ownsRow _ _ _ _ _ _ (intsV []) := ho248
  have sp249 := sp_own (n' := 0) (c := 0) sp246
  have nb250 : Nb b2 (.slice (some ⟨b226, 0, none⟩) 0 0) := nb_new ne233
  refine loopK (fun am0 aa0 wl0 => ∃ (i : Nat) (A0_8 : Option Addr) (n0_8 : Nat) (c0_8 : Nat) , Kn aa0 [(0, .agg #[.int .i64 m, .slice A n c]), (1, .slice A2 n2 c2), (2, .int .i64 a), (3, .pointer (some ⟨b2, 0, none⟩)), (6, .slice none 0 0), (7, .pointer (some ⟨pb236, 0, none⟩)), (8, .slice A0_8 n0_8 c0_8), (19, .slice A2 n2 c2), (20, .int .i64 (n2 : Int)), (21, .int .i64 (i : Int))] 48 ∧ (am0 = n2 - i) ∧ (i ≤ n2) ∧ (n0_8 ≤ i) ∧ (wl0.heap[b2]? = some (.cells #[.int .i64 m, .slice A n c] 26 (0, 0))) ∧ (wl0.ownsRow w.heap.size 3 1 (.slice A0_8 n0_8 c0_8) n0_8 (intsV (aroundI ps vs (9 + findL ps a) i))) ∧ (Nb b2 (.slice A0_8 n0_8 c0_8)) ∧ (Rd wl0 1 (some ⟨pb236, 0, none⟩) 19 (boolsV (wetL (linked ps (openQ vs false)) (9 + (findL ps a))))) ∧ (Sp (some ⟨pb236, 0, none⟩) 19 (Value.ownBlock (.slice A0_8 n0_8 c0_8))) ∧ (Below w.heap.size w wl0)) (n2 - 0) ?_ ?_
  ·exact ⟨0, (some ⟨b226, 0, none⟩), 0, 0, Kn.of, rfl, (Nat.zero_le _), (Nat.zero_le _), x6, ho248, nb250, rd237, sp249, c247⟩
  rintro am0 aa0 wl0 K25 h25 ⟨i, A0_8, n0_8, c0_8, ⟨U0, rfl⟩, rfl, hi, hb8, x6, ho0_8, nb0_8_b2, rd0_7, sp0_7_8, c251⟩
  refine wk fun K26 h26 => ?_
  refine W.region_quiet [(0, false)] kk ?_
  by_cases q252 : ((i : Int) : Int) < ((n2 : Int) : Int)
  ·refine Fq (.bool true) (r_lss (m := (i : Int)) (n := (n2 : Int)) rfl ek ek (decide_eq_true q252)) ?_
   refine F.es ?_
   refine h26 _ _ ?_
   refine wk fun K27 h27 => ?_
   refine wp_cond_true ek ?_
   refine wp_skip ?_
   refine h27 _ _ ?_
   refine wk fun K28 h28 => ?_
   refine wp_block ?_
   refine wk fun K29 h29 => ?_
   refine W.region_plain (row := none) [(0, false), (1, false), (2, false), (3, true), (4, false), (5, true)] kk ?_
   have s253 := SG.self wl0 none
   refine Fv (.int .i64 (i : Int)) ?_
   obtain ⟨x254, hx255⟩ := get_of (zs := vs) (k := i) (by have := hl2; omega)
   obtain ⟨b256, o257, hA258, hb259, hc260, hc261, hc262, hc263⟩ := Rd.elValve hb hx255
   refine Fq (.pointer (some ⟨b256, o257 + i * 4, none⟩)) (r_idx (n := n2) (c := c2) (k := i) rfl ek hA258 kk kk (by have := hl2; omega)) ?_
   refine Fq (.agg #[.int .i64 x254.id, .int .i64 x254.pipe, .int .i64 x254.node, .bool x254.shut]) (r_load4 rfl ek kk kk (sgS (later c251 hc260) (by simp)) (sgS (later c251 hc261) (by simp)) (sgS (later c251 hc262) (by simp)) (sgS (later c251 hc263) (by simp))) ?_
   refine W.sn (fun b => .pointer (some ⟨b, 0, none⟩)) #[.int .i64 0, .int .i64 0, .int .i64 0, .bool false] 40 s253 rfl kk rfl (fun _ => by kernel_rfl) (fun b264 w265 hb266 k267 x268 s269 => ?_)
   refine F.nx ?_
   have lo270 : w.heap.size ≤ b264 := Nat.le_trans ((SG.belowR c251 s253 (fun kq e => by cases e))).size (Nat.le_of_eq hb266)
   have nb273 : Nb b264 (.slice A0_8 n0_8 c0_8) := nb_hi ho0_8 (Nat.le_of_eq hb266)
   have ho274 := own_kept ho0_8 k267
   refine Fa (.int .i64 (i : Int)) ?_
   refine W.ss (v := .agg #[.int .i64 x254.id, .int .i64 x254.pipe, .int .i64 x254.node, .bool x254.shut]) (j := 0) (news := [.int .i64 x254.id, .int .i64 x254.pipe, .int .i64 x254.node, .bool x254.shut]) (cs' := #[.int .i64 x254.id, .int .i64 x254.pipe, .int .i64 x254.node, .bool x254.shut]) s269 rfl kk rfl rfl kk kk x268 kk kk (by simp) kk kk (.inr (Nat.le_trans (s253).size (Nat.le_of_eq hb266))) (fun w275 g276 x277 s278 => ?_)
   have ho279 := own_grown ho274 g276 (fun j e1 e2 => by cases e2; exact nb273 e1.symm)
   refine F.es ?_
   have x6 := SG.blk s278 x6 (Option.some_ne_none _)
   have c280 := (SG.belowR c251 s278 (fun kq e => by cases e))
   have rd281 := Rd.kept rd0_7 (SG.below s278)
   refine h29 _ _ ?_
   refine wk fun K30 h30 => ?_
   refine W.region_sch (row := none) (Sch.of [(0, false), (1, false), (2, false), (3, false), (4, false), (5, false), (6, false), (7, false), (8, false), (9, false), (12, false), (10, true), (11, true), (13, false), (14, false), (15, false)]) kk kk (fun _ d _ _ _ h => by cases d <;> exact h) kk (fun w282 e283 s284 => ?_)
   have ho285 := own_heap ho279 e283
   refine Fv (.pointer (some ⟨pb236, 0, none⟩)) ?_
   refine Fq (.pointer (some ⟨b264, 2, none⟩)) (r_field (k := 2) rfl ek kk) ?_
   refine Fl (.int .i64 x254.node) (sgS (blk_cell (j := 2) x277 kk) (Option.some_ne_none _)) ?_
   refine Fq (.pointer (some ⟨pb236, 0, none⟩)) (r_nilCheck rfl ek) ?_
   obtain ⟨kz, pz, ekz, hkz, hpz, hnz⟩ := hv9.place x254 (List.mem_of_getElem? hx255)
   have hgz := hg.at hpz
   obtain ⟨x286, hx287⟩ := get_of (zs := (wetL (linked ps (openQ vs false)) (9 + (findL ps a)))) (k := x254.node.toNat) (by have := hl238; omega)
   obtain ⟨hb288, hc289⟩ := Rd.elBool rd281 hx287
   refine Fq (.pointer (some ⟨pb236, x254.node.toNat, none⟩)) (r_idxA (len := 19) (k := x254.node.toNat) rfl ek (evk (z := x254.node) kk (by omega)) kk (by omega)) ?_
   refine Fl (.bool x286) (sgS hc289 (by simp)) ?_
   refine Fv (.pointer (some ⟨pb236, 0, none⟩)) ?_
   refine Fq (.agg #[.int .i64 m, .slice A n c]) (r_load2 rfl ek kk kk (sgS (blk_cell (j := 0) x6 kk) (Option.some_ne_none _)) (sgS (blk_cell (j := 1) x6 kk) (Option.some_ne_none _))) ?_
   refine Fq (.pointer (some ⟨b264, 1, none⟩)) (r_field (k := 1) rfl ek kk) ?_
   refine Fl (.int .i64 x254.pipe) (sgS (blk_cell (j := 1) x277 kk) (Option.some_ne_none _)) ?_
   refine Fq (.pointer (some ⟨pb236, 0, none⟩)) (r_nilCheck rfl ek) ?_
   refine Fc [.agg #[.int .i64 m, .slice A n c], .int .i64 x254.pipe] (pipeIndex_any m A n c ps x254.pipe _ (Rd.kept ha (SG.belowR c280 s284 (fun kq e => by cases e))) (by omega)) ?_
   rintro e w291 ⟨rfl, b290⟩
   have s292 := SG.of_below s284 b290
   refine ⟨_, rfl, s292, ?_⟩
   refine F.nx ?_
   have ho293 := own_kept ho285 b290
   refine Fc [.int .i64 (findL ps x254.pipe)] (element_any (findL ps x254.pipe) _ (by omega)) ?_
   rintro e w' ⟨rfl, rfl⟩
   refine ⟨_, rfl, s292, ?_⟩
   refine F.nx ?_
   obtain ⟨x296, hx297⟩ := get_of (zs := (wetL (linked ps (openQ vs false)) (9 + (findL ps a)))) (k := (9 + kz)) (by have := hl238; omega)
   obtain ⟨hb298, hc299⟩ := Rd.elBool rd281 hx297
   refine Fq (.pointer (some ⟨pb236, (9 + kz), none⟩)) (r_idxA (len := 19) (k := (9 + kz)) rfl ek (evk (z := 9 + (findL ps x254.pipe)) kk (by omega)) kk (by omega)) ?_
   refine Fl (.bool x296) (sgS hc299 (by simp)) ?_
   by_cases q300 : x286 = x296
   ·refine Fq (.bool false) (r_neqB (m := x286) (n := x296) rfl ek ek kk (by rw [(beq_iff_eq.2 q300)]; try rfl)) ?_
    refine F.es ?_
    have x6 := SG.blk s292 x6 (Option.some_ne_none _)
    have c301 := (SG.belowR c280 s292 (fun kq e => by cases e))
    have rd302 := Rd.kept rd281 (SG.below s292)
    refine h30 _ _ ?_
    refine wp_cond_false ek ?_
    refine wp_skip ?_
    refine h28 _ _ ?_
    refine W.region_quiet [(0, false), (1, false)] kk ?_
    refine Fq (.int .i64 ((i + 1 : Nat) : Int)) (r_add (m := (i : Int)) (n := 1) (z := ((i + 1 : Nat) : Int)) rfl ek ek (by omega) (by omega)) ?_
    refine Fv (.int .i64 ((i + 1 : Nat) : Int)) ?_
    refine F.es ?_
    exact h25 _ _ _ (by omega : (n2 - (i + 1)) < _) ⟨i + 1, A0_8, n0_8, c0_8, Kn.of, rfl, (by omega), (by omega), x6, (by rw [aroundI_no hx255 (by have h9 := wet_eqI (b := x254.node) hx287 (by omega); have h8 := wet_eqI (b := 9 + findL ps x254.pipe) hx297 (by omega); rw [← h9, ← h8]; exact q300)]; exact ho293), nb0_8_b2, rd302, sp0_7_8, c301⟩
   refine Fq (.bool true) (r_neqB (m := x286) (n := x296) rfl ek ek kk (by rw [(beq_eq_false_iff_ne.2 q300)]; try rfl)) ?_
   refine F.es ?_
   have x6 := SG.blk s292 x6 (Option.some_ne_none _)
   have c303 := (SG.belowR c280 s292 (fun kq e => by cases e))
   have rd304 := Rd.kept rd281 (SG.below s292)
   refine h30 _ _ ?_
   refine wp_cond_true ek ?_
   refine W.region_plain (row := (Value.ownBlock (.slice A0_8 n0_8 c0_8))) [(0, false), (1, false), (2, true), (3, true), (4, false)] kk ?_
   have s305 := SG.self w291 (Value.ownBlock (.slice A0_8 n0_8 c0_8))
   refine Fv (.slice A0_8 n0_8 c0_8) ?_
   refine Fv (.int .i64 (i : Int)) ?_
   refine W.sn (fun b => .slice (some ⟨b, 0, none⟩) 1 1) #[.int .i64 (i : Int)] 3 s305 rfl kk rfl (fun _ => by kernel_rfl) (fun b306 w307 hb308 k309 x310 s311 => ?_)
   refine F.nx ?_
   have lo312 : w.heap.size ≤ b306 := Nat.le_trans ((SG.belowR c303 s305 (fun kq e => (World.ownsRow.lt ho293 kq e).1))).size (Nat.le_of_eq hb308)
   have ho317 := own_kept ho293 k309
   refine W.sap (e := 3) (size := 1) (base := w.heap.size) (m := 1) (v := .slice A0_8 n0_8 c0_8) (c := 1) s311 rfl rfl rfl rfl kk kk kk ho317 x310 kk kk (by omega) (by omega) (by have := ((SG.belowR c303 s311 (fun kq e => (World.ownsRow.lt ho293 kq e).1))).size; omega) (.inl rfl) (fun g318 cap319 w320 ho321 hg322 hat323 hlt324 s325 => ?_)
   refine F.nx ?_
   have nb326 : Nb b2 (.slice (some ⟨g318, 0, none⟩) (n0_8 + 1) cap319) := nb_app nb0_8_b2 (Nat.lt_of_lt_of_le (blk_lt x6) (s311).size) hat323
   have ho321 := own_snoc ho321
   have sp329 := sp_app (v' := .slice (some ⟨g318, 0, none⟩) (n0_8 + 1) cap319) sp0_7_8 rd304 ((s311).size) (hat3 (v := .slice A0_8 n0_8 c0_8) hat323)
   refine Fa (.slice (some ⟨g318, 0, none⟩) (n0_8 + 1) cap319) ?_
   refine F.es ?_
   have x6 := SG.blk s325 x6 nb0_8_b2
   have c330 := (SG.belowR c303 s325 (fun kq e => (World.ownsRow.lt ho293 kq e).1))
   have rd331 := rd_sep rd304 s325 sp0_7_8
   refine h28 _ _ ?_
   refine W.region_quiet [(0, false), (1, false)] kk ?_
   refine Fq (.int .i64 ((i + 1 : Nat) : Int)) (r_add (m := (i : Int)) (n := 1) (z := ((i + 1 : Nat) : Int)) rfl ek ek (by omega) (by omega)) ?_
   refine Fv (.int .i64 ((i + 1 : Nat) : Int)) ?_
   refine F.es ?_
   exact h25 _ _ _ (by omega : (n2 - (i + 1)) < _) ⟨i + 1, (some ⟨g318, 0, none⟩), (n0_8 + 1), cap319, Kn.of, rfl, (by omega), (by omega), x6, (by rw [aroundI_yes hx255 (by have h9 := wet_eqI (b := x254.node) hx287 (by omega); have h8 := wet_eqI (b := 9 + findL ps x254.pipe) hx297 (by omega); rw [← h9, ← h8]; exact q300)]; exact ho321), nb326, rd331, sp329, c330⟩
  refine Fq (.bool false) (r_lss (m := (i : Int)) (n := (n2 : Int)) rfl ek ek (decide_eq_false q252)) ?_
  refine F.es ?_
  refine h26 _ _ ?_
  refine wk fun K31 h31 => ?_
  refine wp_cond_false ek ?_
  refine wp_exit ?_
  refine h23 _ _ ?_
  refine wk fun K32 h32 => ?_
  refine W.region_quiet [(0, false), (1, false)] kk ?_
  refine Fv (.slice A0_8 n0_8 c0_8) ?_
  refine Fa (.slice A0_8 n0_8 c0_8) ?_
  refine F.es ?_
  refine h32 _ _ ?_
  refine wp_ret ?_
  try simp only [Exit.then]
  refine ret1 (v := .slice A0_8 n0_8 c0_8) rfl kk ?_
  exact ⟨_, _, _, rfl, (by rw [show vs.length = i by omega]; exact ho0_8), c251⟩
 refine W.sn (fun b => .slice (some ⟨b, 0, none⟩) 0 0) #[] 3 s12 rfl kk rfl (fun _ => by kernel_rfl) (fun b332 w333 hb334 k335 x336 s337 => ?_)
 refine F.nx ?_
 have lo338 : w.heap.size ≤ b332 := Nat.le_trans ((SG.belowR c9 s12 (fun kq e => by cases e))).size (Nat.le_of_eq hb334)
 have ne339 : b2 ≠ b332 := Nat.ne_of_lt (Nat.lt_of_lt_of_eq (Nat.lt_of_lt_of_le (blk_lt x6) (s12).size) hb334)
 refine Fc [.agg #[.int .i64 m, .slice A n c], .int .i64 a] (pipeIndex_any m A n c ps a _ (Rd.kept ha (SG.belowR c9 s337 (fun kq e => by cases e))) (by omega)) ?_
 rintro e w341 ⟨rfl, b340⟩
 have s342 := SG.of_below s337 b340
 refine ⟨_, rfl, s342, ?_⟩
 refine F.nx ?_
 have x336 := (b340.block _ (blk_lt x336)).trans x336
 refine Fc [.int .i64 (findL ps a)] (element_any (findL ps a) _ (by omega)) ?_
 rintro e w' ⟨rfl, rfl⟩
 refine ⟨_, rfl, s342, ?_⟩
 refine F.nx ?_
 have lb350 := blk_lt x336
 refine Fc [.agg #[.int .i64 m, .slice A n c], .slice A2 n2 c2, .int .i64 (9 + (findL ps a))] (segmentOf_any m A n c ps A2 n2 c2 vs (9 + (findL ps a)) (9 + (findL ps a)).toNat _ (Rd.kept ha (SG.belowR c9 s342 (fun kq e => by cases e))) (Rd.kept hb (SG.belowR c9 s342 (fun kq e => by cases e))) (by omega) (by omega) hp (by omega) (by omega) (by omega) (by omega)) ?_
 rintro e w352 ⟨pb345, rfl, lo349, rd346, b351⟩
 have s353 := SG.of_below s342 b351
 refine ⟨_, rfl, s353, ?_⟩
 refine F.nx ?_
 have x336 := (b351.block _ (blk_lt x336)).trans x336
 have sp355 : Sp (some ⟨pb345, 0, none⟩) 19 (some b332) := sp_ptrB (Nat.lt_of_lt_of_le lb350 lo349)
 have hl347 := rd_bools_len rd346
 rw [wetL_len] at hl347
 have hl347 : (wetL (linked ps (openQ vs false)) (9 + (findL ps a))).length = 19 := wetL_len _ _
 refine Fa (.pointer (some ⟨pb345, 0, none⟩)) ?_
 refine Fa (.slice (some ⟨b332, 0, none⟩) 0 0) ?_
 refine F.es ?_
 have x6 := SG.blk s353 x6 (Option.some_ne_none _)
 have c356 := (SG.belowR c9 s353 (fun kq e => by cases e))
 refine h2 _ _ ?_
 refine wk fun K33 h33 => ?_
 refine wk fun K34 h34 => ?_
 refine W.region_quiet [(0, false), (1, false), (2, false)] kk ?_
 refine Fv (.slice A2 n2 c2) ?_
 refine Fq (.int .i64 (n2 : Int)) (r_len (A := A2) (n := n2) (c := c2) rfl ek kk) ?_
 refine Fv (.int .i64 0) ?_
 refine F.es ?_
 refine h34 _ _ ?_
 refine wp_block ?_
 have ho357 := own_empty (base := w.heap.size) (size := 1) x336 lo338
 replace ho357 : World.ownsRow _ _ _ _ _ _ (intsV []) := ho357
 have sp358 := sp_own (n' := 0) (c := 0) sp355
 have nb359 : Nb b2 (.slice (some ⟨b332, 0, none⟩) 0 0) := nb_new ne339
 refine loopK (fun am0 aa0 wl0 => ∃ (i : Nat) (A0_8 : Option Addr) (n0_8 : Nat) (c0_8 : Nat) , Kn aa0 [(0, .agg #[.int .i64 m, .slice A n c]), (1, .slice A2 n2 c2), (2, .int .i64 a), (3, .pointer (some ⟨b2, 0, none⟩)), (6, .slice none 0 0), (7, .pointer (some ⟨pb345, 0, none⟩)), (8, .slice A0_8 n0_8 c0_8), (19, .slice A2 n2 c2), (20, .int .i64 (n2 : Int)), (21, .int .i64 (i : Int))] 48 ∧ (am0 = n2 - i) ∧ (i ≤ n2) ∧ (n0_8 ≤ i) ∧ (wl0.heap[b2]? = some (.cells #[.int .i64 m, .slice A n c] 26 (0, 0))) ∧ (wl0.ownsRow w.heap.size 3 1 (.slice A0_8 n0_8 c0_8) n0_8 (intsV (aroundI ps vs (9 + findL ps a) i))) ∧ (Nb b2 (.slice A0_8 n0_8 c0_8)) ∧ (Rd wl0 1 (some ⟨pb345, 0, none⟩) 19 (boolsV (wetL (linked ps (openQ vs false)) (9 + (findL ps a))))) ∧ (Sp (some ⟨pb345, 0, none⟩) 19 (Value.ownBlock (.slice A0_8 n0_8 c0_8))) ∧ (Below w.heap.size w wl0)) (n2 - 0) ?_ ?_
 ·exact ⟨0, (some ⟨b332, 0, none⟩), 0, 0, Kn.of, rfl, (Nat.zero_le _), (Nat.zero_le _), x6, ho357, nb359, rd346, sp358, c356⟩
 rintro am0 aa0 wl0 K35 h35 ⟨i, A0_8, n0_8, c0_8, ⟨U0, rfl⟩, rfl, hi, hb8, x6, ho0_8, nb0_8_b2, rd0_7, sp0_7_8, c360⟩
 refine wk fun K36 h36 => ?_
 refine W.region_quiet [(0, false)] kk ?_
 by_cases q361 : ((i : Int) : Int) < ((n2 : Int) : Int)
 ·refine Fq (.bool true) (r_lss (m := (i : Int)) (n := (n2 : Int)) rfl ek ek (decide_eq_true q361)) ?_
  refine F.es ?_
  refine h36 _ _ ?_
  refine wk fun K37 h37 => ?_
  refine wp_cond_true ek ?_
  refine wp_skip ?_
  refine h37 _ _ ?_
  refine wk fun K38 h38 => ?_
  refine wp_block ?_
  refine wk fun K39 h39 => ?_
  refine W.region_plain (row := none) [(0, false), (1, false), (2, false), (3, true), (4, false), (5, true)] kk ?_
  have s362 := SG.self wl0 none
  refine Fv (.int .i64 (i : Int)) ?_
  obtain ⟨x363, hx364⟩ := get_of (zs := vs) (k := i) (by have := hl2; omega)
  obtain ⟨b365, o366, hA367, hb368, hc369, hc370, hc371, hc372⟩ := Rd.elValve hb hx364
  refine Fq (.pointer (some ⟨b365, o366 + i * 4, none⟩)) (r_idx (n := n2) (c := c2) (k := i) rfl ek hA367 kk kk (by have := hl2; omega)) ?_
  refine Fq (.agg #[.int .i64 x363.id, .int .i64 x363.pipe, .int .i64 x363.node, .bool x363.shut]) (r_load4 rfl ek kk kk (sgS (later c360 hc369) (by simp)) (sgS (later c360 hc370) (by simp)) (sgS (later c360 hc371) (by simp)) (sgS (later c360 hc372) (by simp))) ?_
  refine W.sn (fun b => .pointer (some ⟨b, 0, none⟩)) #[.int .i64 0, .int .i64 0, .int .i64 0, .bool false] 40 s362 rfl kk rfl (fun _ => by kernel_rfl) (fun b373 w374 hb375 k376 x377 s378 => ?_)
  refine F.nx ?_
  have lo379 : w.heap.size ≤ b373 := Nat.le_trans ((SG.belowR c360 s362 (fun kq e => by cases e))).size (Nat.le_of_eq hb375)
  have nb382 : Nb b373 (.slice A0_8 n0_8 c0_8) := nb_hi ho0_8 (Nat.le_of_eq hb375)
  have ho383 := own_kept ho0_8 k376
  refine Fa (.int .i64 (i : Int)) ?_
  refine W.ss (v := .agg #[.int .i64 x363.id, .int .i64 x363.pipe, .int .i64 x363.node, .bool x363.shut]) (j := 0) (news := [.int .i64 x363.id, .int .i64 x363.pipe, .int .i64 x363.node, .bool x363.shut]) (cs' := #[.int .i64 x363.id, .int .i64 x363.pipe, .int .i64 x363.node, .bool x363.shut]) s378 rfl kk rfl rfl kk kk x377 kk kk (by simp) kk kk (.inr (Nat.le_trans (s362).size (Nat.le_of_eq hb375))) (fun w384 g385 x386 s387 => ?_)
  have ho388 := own_grown ho383 g385 (fun j e1 e2 => by cases e2; exact nb382 e1.symm)
  refine F.es ?_
  have x6 := SG.blk s387 x6 (Option.some_ne_none _)
  have c389 := (SG.belowR c360 s387 (fun kq e => by cases e))
  have rd390 := Rd.kept rd0_7 (SG.below s387)
  refine h39 _ _ ?_
  refine wk fun K40 h40 => ?_
  refine W.region_sch (row := none) (Sch.of [(0, false), (1, false), (2, false), (3, false), (4, false), (5, false), (6, false), (7, false), (8, false), (9, false), (12, false), (10, true), (11, true), (13, false), (14, false), (15, false)]) kk kk (fun _ d _ _ _ h => by cases d <;> exact h) kk (fun w391 e392 s393 => ?_)
  have ho394 := own_heap ho388 e392
  refine Fv (.pointer (some ⟨pb345, 0, none⟩)) ?_
  refine Fq (.pointer (some ⟨b373, 2, none⟩)) (r_field (k := 2) rfl ek kk) ?_
  refine Fl (.int .i64 x363.node) (sgS (blk_cell (j := 2) x386 kk) (Option.some_ne_none _)) ?_
  refine Fq (.pointer (some ⟨pb345, 0, none⟩)) (r_nilCheck rfl ek) ?_
  obtain ⟨kz, pz, ekz, hkz, hpz, hnz⟩ := hv9.place x363 (List.mem_of_getElem? hx364)
  have hgz := hg.at hpz
  obtain ⟨x395, hx396⟩ := get_of (zs := (wetL (linked ps (openQ vs false)) (9 + (findL ps a)))) (k := x363.node.toNat) (by have := hl347; omega)
  obtain ⟨hb397, hc398⟩ := Rd.elBool rd390 hx396
  refine Fq (.pointer (some ⟨pb345, x363.node.toNat, none⟩)) (r_idxA (len := 19) (k := x363.node.toNat) rfl ek (evk (z := x363.node) kk (by omega)) kk (by omega)) ?_
  refine Fl (.bool x395) (sgS hc398 (by simp)) ?_
  refine Fv (.pointer (some ⟨pb345, 0, none⟩)) ?_
  refine Fq (.agg #[.int .i64 m, .slice A n c]) (r_load2 rfl ek kk kk (sgS (blk_cell (j := 0) x6 kk) (Option.some_ne_none _)) (sgS (blk_cell (j := 1) x6 kk) (Option.some_ne_none _))) ?_
  refine Fq (.pointer (some ⟨b373, 1, none⟩)) (r_field (k := 1) rfl ek kk) ?_
  refine Fl (.int .i64 x363.pipe) (sgS (blk_cell (j := 1) x386 kk) (Option.some_ne_none _)) ?_
  refine Fq (.pointer (some ⟨pb345, 0, none⟩)) (r_nilCheck rfl ek) ?_
  refine Fc [.agg #[.int .i64 m, .slice A n c], .int .i64 x363.pipe] (pipeIndex_any m A n c ps x363.pipe _ (Rd.kept ha (SG.belowR c389 s393 (fun kq e => by cases e))) (by omega)) ?_
  rintro e w400 ⟨rfl, b399⟩
  have s401 := SG.of_below s393 b399
  refine ⟨_, rfl, s401, ?_⟩
  refine F.nx ?_
  have ho402 := own_kept ho394 b399
  refine Fc [.int .i64 (findL ps x363.pipe)] (element_any (findL ps x363.pipe) _ (by omega)) ?_
  rintro e w' ⟨rfl, rfl⟩
  refine ⟨_, rfl, s401, ?_⟩
  refine F.nx ?_
  obtain ⟨x405, hx406⟩ := get_of (zs := (wetL (linked ps (openQ vs false)) (9 + (findL ps a)))) (k := (9 + kz)) (by have := hl347; omega)
  obtain ⟨hb407, hc408⟩ := Rd.elBool rd390 hx406
  refine Fq (.pointer (some ⟨pb345, (9 + kz), none⟩)) (r_idxA (len := 19) (k := (9 + kz)) rfl ek (evk (z := 9 + (findL ps x363.pipe)) kk (by omega)) kk (by omega)) ?_
  refine Fl (.bool x405) (sgS hc408 (by simp)) ?_
  by_cases q409 : x395 = x405
  ·refine Fq (.bool false) (r_neqB (m := x395) (n := x405) rfl ek ek kk (by rw [(beq_iff_eq.2 q409)]; try rfl)) ?_
   refine F.es ?_
   have x6 := SG.blk s401 x6 (Option.some_ne_none _)
   have c410 := (SG.belowR c389 s401 (fun kq e => by cases e))
   have rd411 := Rd.kept rd390 (SG.below s401)
   refine h40 _ _ ?_
   refine wp_cond_false ek ?_
   refine wp_skip ?_
   refine h38 _ _ ?_
   refine W.region_quiet [(0, false), (1, false)] kk ?_
   refine Fq (.int .i64 ((i + 1 : Nat) : Int)) (r_add (m := (i : Int)) (n := 1) (z := ((i + 1 : Nat) : Int)) rfl ek ek (by omega) (by omega)) ?_
   refine Fv (.int .i64 ((i + 1 : Nat) : Int)) ?_
   refine F.es ?_
   exact h35 _ _ _ (by omega : (n2 - (i + 1)) < _) ⟨i + 1, A0_8, n0_8, c0_8, Kn.of, rfl, (by omega), (by omega), x6, (by rw [aroundI_no hx364 (by have h9 := wet_eqI (b := x363.node) hx396 (by omega); have h8 := wet_eqI (b := 9 + findL ps x363.pipe) hx406 (by omega); rw [← h9, ← h8]; exact q409)]; exact ho402), nb0_8_b2, rd411, sp0_7_8, c410⟩
  refine Fq (.bool true) (r_neqB (m := x395) (n := x405) rfl ek ek kk (by rw [(beq_eq_false_iff_ne.2 q409)]; try rfl)) ?_
  refine F.es ?_
  have x6 := SG.blk s401 x6 (Option.some_ne_none _)
  have c412 := (SG.belowR c389 s401 (fun kq e => by cases e))
  have rd413 := Rd.kept rd390 (SG.below s401)
  refine h40 _ _ ?_
  refine wp_cond_true ek ?_
  refine W.region_plain (row := (Value.ownBlock (.slice A0_8 n0_8 c0_8))) [(0, false), (1, false), (2, true), (3, true), (4, false)] kk ?_
  have s414 := SG.self w400 (Value.ownBlock (.slice A0_8 n0_8 c0_8))
  refine Fv (.slice A0_8 n0_8 c0_8) ?_
  refine Fv (.int .i64 (i : Int)) ?_
  refine W.sn (fun b => .slice (some ⟨b, 0, none⟩) 1 1) #[.int .i64 (i : Int)] 3 s414 rfl kk rfl (fun _ => by kernel_rfl) (fun b415 w416 hb417 k418 x419 s420 => ?_)
  refine F.nx ?_
  have lo421 : w.heap.size ≤ b415 := Nat.le_trans ((SG.belowR c412 s414 (fun kq e => (World.ownsRow.lt ho402 kq e).1))).size (Nat.le_of_eq hb417)
  have ho426 := own_kept ho402 k418
  refine W.sap (e := 3) (size := 1) (base := w.heap.size) (m := 1) (v := .slice A0_8 n0_8 c0_8) (c := 1) s420 rfl rfl rfl rfl kk kk kk ho426 x419 kk kk (by omega) (by omega) (by have := ((SG.belowR c412 s420 (fun kq e => (World.ownsRow.lt ho402 kq e).1))).size; omega) (.inl rfl) (fun g427 cap428 w429 ho430 hg431 hat432 hlt433 s434 => ?_)
  refine F.nx ?_
  have nb435 : Nb b2 (.slice (some ⟨g427, 0, none⟩) (n0_8 + 1) cap428) := nb_app nb0_8_b2 (Nat.lt_of_lt_of_le (blk_lt x6) (s420).size) hat432
  have ho430 := own_snoc ho430
  have sp438 := sp_app (v' := .slice (some ⟨g427, 0, none⟩) (n0_8 + 1) cap428) sp0_7_8 rd413 ((s420).size) (hat3 (v := .slice A0_8 n0_8 c0_8) hat432)
  refine Fa (.slice (some ⟨g427, 0, none⟩) (n0_8 + 1) cap428) ?_
  refine F.es ?_
  have x6 := SG.blk s434 x6 nb0_8_b2
  have c439 := (SG.belowR c412 s434 (fun kq e => (World.ownsRow.lt ho402 kq e).1))
  have rd440 := rd_sep rd413 s434 sp0_7_8
  refine h38 _ _ ?_
  refine W.region_quiet [(0, false), (1, false)] kk ?_
  refine Fq (.int .i64 ((i + 1 : Nat) : Int)) (r_add (m := (i : Int)) (n := 1) (z := ((i + 1 : Nat) : Int)) rfl ek ek (by omega) (by omega)) ?_
  refine Fv (.int .i64 ((i + 1 : Nat) : Int)) ?_
  refine F.es ?_
  exact h35 _ _ _ (by omega : (n2 - (i + 1)) < _) ⟨i + 1, (some ⟨g427, 0, none⟩), (n0_8 + 1), cap428, Kn.of, rfl, (by omega), (by omega), x6, (by rw [aroundI_yes hx364 (by have h9 := wet_eqI (b := x363.node) hx396 (by omega); have h8 := wet_eqI (b := 9 + findL ps x363.pipe) hx406 (by omega); rw [← h9, ← h8]; exact q409)]; exact ho430), nb435, rd440, sp438, c439⟩
 refine Fq (.bool false) (r_lss (m := (i : Int)) (n := (n2 : Int)) rfl ek ek (decide_eq_false q361)) ?_
 refine F.es ?_
 refine h36 _ _ ?_
 refine wk fun K41 h41 => ?_
 refine wp_cond_false ek ?_
 refine wp_exit ?_
 refine h33 _ _ ?_
 refine wk fun K42 h42 => ?_
 refine W.region_quiet [(0, false), (1, false)] kk ?_
 refine Fv (.slice A0_8 n0_8 c0_8) ?_
 refine Fa (.slice A0_8 n0_8 c0_8) ?_
 refine F.es ?_
 refine h42 _ _ ?_
 refine wp_ret ?_
 try simp only [Exit.then]
 refine ret1 (v := .slice A0_8 n0_8 c0_8) rfl kk ?_
 exact ⟨_, _, _, rfl, (by rw [show vs.length = i by omega]; exact ho0_8), c360⟩
set_option maxRecDepth 100000 in
set_option maxHeartbeats 8000000 in
theorem l4Around_any (m : Int) (A : Option Addr) (n c : Nat) (ps : List Pp) (A2 : Option Addr) (n2 c2 : Nat) (vs : List Vv) (a : Int) (A3 : Option Addr) (n3 c3 : Nat) (A4 : Option Addr) (n4 c4 : Nat) (w : World) (ha : Rd w 4 A n (pipesV ps)) (hb : Rd w 4 A2 n2 (valvesV vs)) (hn : n ≤ 1048576) (hn2 : n2 ≤ 1048576) (hv9 : GoodVal m ps vs) (hfa : 0 ≤ findL ps a) (hy : Rd w 1 A3 n3 (intsV (nodesL (linked ps (openQ vs false)) m.toNat (9 + findL ps a) true))) (hx : Rd w 1 A4 n4 (intsV (idxL (linked ps (openQ vs false)) ps.length (9 + findL ps a) true))) :
    Calls Try.prog 86 #[.agg #[.int .i64 m, .slice A n c], .slice A2 n2 c2, .slice A3 n3 c3, .slice A4 n4 c4] w fun e w' => ∃ A' n' c', e = .returned (.slice A' n' c') ∧ w'.ownsRow w.heap.size 3 1 (.slice A' n' c') n' (intsV (aroundI ps vs (9 + findL ps a) vs.length)) ∧ Below w.heap.size w w' := by
 have hl := rd_pipes_len ha
 have hl2 := rd_valves_len hb
 have hg := hv9.net
 have hgl := hg.lo
 have hgh := hg.hi
 have hp := hg.pipesIn
 have hlen10 := hg.len
 have hu := hv9.uniq
 have hvl := hv9.len
 have hfl := findL_lt ps a
 have hly := rd_ints_len hy
 have hlx := rd_ints_len hx
 have := nodesL_len (linked ps (openQ vs false)) m.toNat (9 + findL ps a) true
 have := idxL_len (linked ps (openQ vs false)) ps.length (9 + findL ps a) true
 go_enter Try.func86, Try.ntmps86
 refine F.begin 40 [(0, .agg #[.int .i64 m, .slice A n c]), (1, .slice A2 n2 c2), (2, .slice A3 n3 c3), (3, .slice A4 n4 c4)] (fun U0 => ?_)
 refine wk fun K1 h1 => ?_
 refine W.region_plain (row := none) [(0, true), (1, false)] kk ?_
 have s1 := SG.self w none
 refine W.sn (fun b => .pointer (some ⟨b, 0, none⟩)) #[.int .i64 m, .slice A n c] 26 s1 rfl kk rfl (fun _ => by kernel_rfl) (fun b2 w3 hb4 k5 x6 s7 => ?_)
 refine F.nx ?_
 have lo8 : w.heap.size ≤ b2 := Nat.le_trans ((SG.belowR (Below.refl _ _) s1 (fun kq e => by cases e))).size (Nat.le_of_eq hb4)
 refine Fa (.slice none 0 0) ?_
 refine F.es ?_
 have c9 := (SG.belowR (Below.refl _ _) s7 (fun kq e => by cases e))
 refine h1 _ _ ?_
 refine wk fun K2 h2 => ?_
 refine W.region_plain (row := none) [(0, true), (1, false)] kk ?_
 have s10 := SG.self w3 none
 refine W.sn (fun b => .slice (some ⟨b, 0, none⟩) 0 0) #[] 3 s10 rfl kk rfl (fun _ => by kernel_rfl) (fun b11 w12 hb13 k14 x15 s16 => ?_)
 refine F.nx ?_
 have lo17 : w.heap.size ≤ b11 := Nat.le_trans ((SG.belowR c9 s10 (fun kq e => by cases e))).size (Nat.le_of_eq hb13)
 have ne18 : b2 ≠ b11 := Nat.ne_of_lt (Nat.lt_of_lt_of_eq (Nat.lt_of_lt_of_le (blk_lt x6) (s10).size) hb13)
 refine Fa (.slice (some ⟨b11, 0, none⟩) 0 0) ?_
 refine F.es ?_
 have x6 := SG.blk s16 x6 (Option.some_ne_none _)
 have c19 := (SG.belowR c9 s16 (fun kq e => by cases e))
 refine h2 _ _ ?_
 refine wk fun K3 h3 => ?_
 refine wk fun K4 h4 => ?_
 refine W.region_quiet [(0, false)] kk ?_
 refine Fa (.int .i64 0) ?_
 refine F.es ?_
 refine h4 _ _ ?_
 refine wp_block ?_
 have ho20 := own_empty (base := w.heap.size) (size := 1) x15 lo17
 replace ho20 : World.ownsRow _ _ _ _ _ _ (intsV []) := ho20
 have nb21 : Nb b2 (.slice (some ⟨b11, 0, none⟩) 0 0) := nb_new ne18
 refine loopK (fun am0 aa0 wl0 => ∃ (i : Nat) (A0_9 : Option Addr) (n0_9 : Nat) (c0_9 : Nat) , Kn aa0 [(0, .agg #[.int .i64 m, .slice A n c]), (1, .slice A2 n2 c2), (2, .slice A3 n3 c3), (3, .slice A4 n4 c4), (4, .pointer (some ⟨b2, 0, none⟩)), (8, .slice none 0 0), (9, .slice A0_9 n0_9 c0_9), (10, .int .i64 (i : Int))] 40 ∧ (am0 = n2 - i) ∧ (i ≤ n2) ∧ (n0_9 ≤ i) ∧ (wl0.heap[b2]? = some (.cells #[.int .i64 m, .slice A n c] 26 (0, 0))) ∧ (wl0.ownsRow w.heap.size 3 1 (.slice A0_9 n0_9 c0_9) n0_9 (intsV (aroundI ps vs (9 + findL ps a) i))) ∧ (Nb b2 (.slice A0_9 n0_9 c0_9)) ∧ (Below w.heap.size w wl0)) (n2 - 0) ?_ ?_
 ·exact ⟨0, (some ⟨b11, 0, none⟩), 0, 0, Kn.of, rfl, (Nat.zero_le _), (Nat.zero_le _), x6, ho20, nb21, c19⟩
 rintro am0 aa0 wl0 K5 h5 ⟨i, A0_9, n0_9, c0_9, ⟨U0, rfl⟩, rfl, hi, hb9, x6, ho0_9, nb0_9_b2, c22⟩
 refine wk fun K6 h6 => ?_
 refine wk fun K7 h7 => ?_
 refine W.region_quiet [(0, false), (1, false), (2, false), (3, false)] kk ?_
 refine Fv (.int .i64 (i : Int)) ?_
 refine Fv (.slice A2 n2 c2) ?_
 refine Fq (.int .i64 (n2 : Int)) (r_len (A := A2) (n := n2) (c := c2) rfl ek kk) ?_
 by_cases q23 : ((i : Int) : Int) < ((n2 : Int) : Int)
 ·refine Fq (.bool true) (r_lss (m := (i : Int)) (n := (n2 : Int)) rfl ek ek (decide_eq_true q23)) ?_
  refine F.es ?_
  refine h7 _ _ ?_
  refine wp_cond_true ek ?_
  refine wp_skip ?_
  refine h6 _ _ ?_
  refine wk fun K8 h8 => ?_
  refine wp_block ?_
  refine wk fun K9 h9 => ?_
  refine W.region_sch (row := none) (Sch.of [(0, false), (1, false), (2, false), (3, false), (4, false), (5, false), (7, false), (8, false), (9, false), (10, false), (11, false), (12, false), (13, false), (6, true), (14, true), (15, true), (16, false)]) kk kk (fun _ d _ _ _ h => by cases d <;> exact h) kk (fun w24 e25 s26 => ?_)
  have ho27 := own_heap ho0_9 e25
  refine Fv (.slice A3 n3 c3) ?_
  refine Fv (.slice A2 n2 c2) ?_
  refine Fv (.int .i64 (i : Int)) ?_
  obtain ⟨x28, hx29⟩ := get_of (zs := vs) (k := i) (by have := hl2; omega)
  obtain ⟨b30, o31, hA32, hb33, hc34, hc35, hc36, hc37⟩ := Rd.elValve hb hx29
  refine Fq (.pointer (some ⟨b30, o31 + i * 4, none⟩)) (r_idx (n := n2) (c := c2) (k := i) rfl ek hA32 kk kk (by have := hl2; omega)) ?_
  refine Fq (.pointer (some ⟨b30, o31 + i * 4 + 2, none⟩)) (r_field (k := 2) rfl ek kk) ?_
  refine Fl (.int .i64 x28.node) (sgS (later c22 hc36) (by simp)) ?_
  refine Fv (.slice A4 n4 c4) ?_
  refine Fq (.agg #[.int .i64 m, .slice A n c]) (r_load2 rfl ek kk kk (sgS (blk_cell (j := 0) x6 kk) (Option.some_ne_none _)) (sgS (blk_cell (j := 1) x6 kk) (Option.some_ne_none _))) ?_
  refine Fv (.slice A2 n2 c2) ?_
  refine Fv (.int .i64 (i : Int)) ?_
  refine Fq (.pointer (some ⟨b30, o31 + i * 4, none⟩)) (r_idx (n := n2) (c := c2) (k := i) rfl ek hA32 kk kk (by have := hl2; omega)) ?_
  refine Fq (.pointer (some ⟨b30, o31 + i * 4 + 1, none⟩)) (r_field (k := 1) rfl ek kk) ?_
  refine Fl (.int .i64 x28.pipe) (sgS (later c22 hc35) (by simp)) ?_
  obtain ⟨kz, pz, ekz, hkz, hpz, hnz⟩ := hv9.place x28 (List.mem_of_getElem? hx29)
  have hgz := hg.at hpz
  refine Fc [.slice A3 n3 c3, .int .i64 x28.node] (l1Has_any A3 n3 c3 (nodesL (linked ps (openQ vs false)) m.toNat (9 + findL ps a) true) x28.node _ (Rd.kept hy (SG.belowR c22 s26 (fun kq e => by cases e))) (by omega)) ?_
  rintro e w39 ⟨rfl, b38⟩
  have s40 := SG.of_below s26 b38
  refine ⟨_, rfl, s40, ?_⟩
  refine F.nx ?_
  have ho41 := own_kept ho27 b38
  refine Fc [.agg #[.int .i64 m, .slice A n c], .int .i64 x28.pipe] (l2Find_any m A n c ps x28.pipe _ (Rd.kept ha (SG.belowR c22 s40 (fun kq e => by cases e))) (by omega)) ?_
  rintro e w43 ⟨rfl, b42⟩
  have s44 := SG.of_below s40 b42
  refine ⟨_, rfl, s44, ?_⟩
  refine F.nx ?_
  have ho45 := own_kept ho41 b42
  refine Fc [.slice A4 n4 c4, .int .i64 (findL ps x28.pipe)] (l1Has_any A4 n4 c4 (idxL (linked ps (openQ vs false)) ps.length (9 + findL ps a) true) (findL ps x28.pipe) _ (Rd.kept hx (SG.belowR c22 s44 (fun kq e => by cases e))) (by omega)) ?_
  rintro e w47 ⟨rfl, b46⟩
  have s48 := SG.of_below s44 b46
  refine ⟨_, rfl, s48, ?_⟩
  refine F.nx ?_
  have ho49 := own_kept ho45 b46
  by_cases q50 : ((nodesL (linked ps (openQ vs false)) m.toNat (9 + findL ps a) true).contains x28.node) = ((idxL (linked ps (openQ vs false)) ps.length (9 + findL ps a) true).contains (findL ps x28.pipe))
  ·refine Fq (.bool false) (r_neqB (m := ((nodesL (linked ps (openQ vs false)) m.toNat (9 + findL ps a) true).contains x28.node)) (n := ((idxL (linked ps (openQ vs false)) ps.length (9 + findL ps a) true).contains (findL ps x28.pipe))) rfl ek ek kk (by rw [(beq_iff_eq.2 q50)]; try rfl)) ?_
   refine F.es ?_
   have x6 := SG.blk s48 x6 (Option.some_ne_none _)
   have c51 := (SG.belowR c22 s48 (fun kq e => by cases e))
   refine h9 _ _ ?_
   refine wp_cond_false ek ?_
   refine wp_skip ?_
   refine h8 _ _ ?_
   refine W.region_quiet [(0, false), (1, false), (2, false)] kk ?_
   refine Fv (.int .i64 (i : Int)) ?_
   refine Fq (.int .i64 ((i + 1 : Nat) : Int)) (r_add (m := (i : Int)) (n := 1) (z := ((i + 1 : Nat) : Int)) rfl ek ek (by omega) (by omega)) ?_
   refine Fa (.int .i64 ((i + 1 : Nat) : Int)) ?_
   refine F.es ?_
   exact h5 _ _ _ (by omega : (n2 - (i + 1)) < _) ⟨i + 1, A0_9, n0_9, c0_9, Kn.of, rfl, (by omega), (by omega), x6, (by rw [aroundI_no hx29 (by have h9 := nodesL_has (E := (linked ps (openQ vs false))) (m := m.toNat) (a := (9 + findL ps a)) (b := x28.node) (by omega); have h8 := idxL_has (E := (linked ps (openQ vs false))) (n := ps.length) (a := (9 + findL ps a)) (b := findL ps x28.pipe) (by omega); rw [← h9, ← h8]; exact q50)]; exact ho49), nb0_9_b2, c51⟩
  refine Fq (.bool true) (r_neqB (m := ((nodesL (linked ps (openQ vs false)) m.toNat (9 + findL ps a) true).contains x28.node)) (n := ((idxL (linked ps (openQ vs false)) ps.length (9 + findL ps a) true).contains (findL ps x28.pipe))) rfl ek ek kk (by rw [(beq_eq_false_iff_ne.2 q50)]; try rfl)) ?_
  refine F.es ?_
  have x6 := SG.blk s48 x6 (Option.some_ne_none _)
  have c52 := (SG.belowR c22 s48 (fun kq e => by cases e))
  refine h9 _ _ ?_
  refine wp_cond_true ek ?_
  refine W.region_plain (row := (Value.ownBlock (.slice A0_9 n0_9 c0_9))) [(0, false), (1, false), (2, true), (3, true), (4, false)] kk ?_
  have s53 := SG.self w47 (Value.ownBlock (.slice A0_9 n0_9 c0_9))
  refine Fv (.slice A0_9 n0_9 c0_9) ?_
  refine Fv (.int .i64 (i : Int)) ?_
  refine W.sn (fun b => .slice (some ⟨b, 0, none⟩) 1 1) #[.int .i64 (i : Int)] 3 s53 rfl kk rfl (fun _ => by kernel_rfl) (fun b54 w55 hb56 k57 x58 s59 => ?_)
  refine F.nx ?_
  have lo60 : w.heap.size ≤ b54 := Nat.le_trans ((SG.belowR c52 s53 (fun kq e => (World.ownsRow.lt ho49 kq e).1))).size (Nat.le_of_eq hb56)
  have ho63 := own_kept ho49 k57
  refine W.sap (e := 3) (size := 1) (base := w.heap.size) (m := 1) (v := .slice A0_9 n0_9 c0_9) (c := 1) s59 rfl rfl rfl rfl kk kk kk ho63 x58 kk kk (by omega) (by omega) (by have := ((SG.belowR c52 s59 (fun kq e => (World.ownsRow.lt ho49 kq e).1))).size; omega) (.inl rfl) (fun g64 cap65 w66 ho67 hg68 hat69 hlt70 s71 => ?_)
  refine F.nx ?_
  have nb72 : Nb b2 (.slice (some ⟨g64, 0, none⟩) (n0_9 + 1) cap65) := nb_app nb0_9_b2 (Nat.lt_of_lt_of_le (blk_lt x6) (s59).size) hat69
  have ho67 := own_snoc ho67
  refine Fa (.slice (some ⟨g64, 0, none⟩) (n0_9 + 1) cap65) ?_
  refine F.es ?_
  have x6 := SG.blk s71 x6 nb0_9_b2
  have c74 := (SG.belowR c52 s71 (fun kq e => (World.ownsRow.lt ho49 kq e).1))
  refine h8 _ _ ?_
  refine W.region_quiet [(0, false), (1, false), (2, false)] kk ?_
  refine Fv (.int .i64 (i : Int)) ?_
  refine Fq (.int .i64 ((i + 1 : Nat) : Int)) (r_add (m := (i : Int)) (n := 1) (z := ((i + 1 : Nat) : Int)) rfl ek ek (by omega) (by omega)) ?_
  refine Fa (.int .i64 ((i + 1 : Nat) : Int)) ?_
  refine F.es ?_
  exact h5 _ _ _ (by omega : (n2 - (i + 1)) < _) ⟨i + 1, (some ⟨g64, 0, none⟩), (n0_9 + 1), cap65, Kn.of, rfl, (by omega), (by omega), x6, (by rw [aroundI_yes hx29 (by have h9 := nodesL_has (E := (linked ps (openQ vs false))) (m := m.toNat) (a := (9 + findL ps a)) (b := x28.node) (by omega); have h8 := idxL_has (E := (linked ps (openQ vs false))) (n := ps.length) (a := (9 + findL ps a)) (b := findL ps x28.pipe) (by omega); rw [← h9, ← h8]; exact q50)]; exact ho67), nb72, c74⟩
 refine Fq (.bool false) (r_lss (m := (i : Int)) (n := (n2 : Int)) rfl ek ek (decide_eq_false q23)) ?_
 refine F.es ?_
 refine h7 _ _ ?_
 refine wp_cond_false ek ?_
 refine wp_exit ?_
 refine h3 _ _ ?_
 refine wk fun K10 h10 => ?_
 refine W.region_quiet [(0, false), (1, false)] kk ?_
 refine Fv (.slice A0_9 n0_9 c0_9) ?_
 refine Fa (.slice A0_9 n0_9 c0_9) ?_
 refine F.es ?_
 refine h10 _ _ ?_
 refine wp_ret ?_
 try simp only [Exit.then]
 refine ret1 (v := .slice A0_9 n0_9 c0_9) rfl kk ?_
 exact ⟨_, _, _, rfl, (by rw [show vs.length = i by omega]; exact ho0_9), c22⟩
set_option maxRecDepth 100000 in
set_option maxHeartbeats 8000000 in
theorem ValvesAround_impl (m : Int) (A : Option Addr) (n c : Nat) (ps : List Pp) (A2 : Option Addr) (n2 c2 : Nat) (vs : List Vv) (a : Int) (w : World) (ha : Rd w 4 A n (pipesV ps)) (hb : Rd w 4 A2 n2 (valvesV vs)) (hn : n ≤ 1048576) (hn2 : n2 ≤ 1048576) (hfm : Fm A n c) (hfm2 : Fm A2 n2 c2) :
    Calls Try.prog 16 #[.agg #[.int .i64 m, .slice A n c], .slice A2 n2 c2, .int .i64 a] w fun e w' => ∃ A' d, e = .returned (.tuple #[.slice A' (ValvesAround_v0 m ps vs a).length d, .bool (ValvesAround_v1 m ps vs a)]) ∧ w'.ownsRow w.heap.size 3 1 (.slice A' (ValvesAround_v0 m ps vs a).length d) (ValvesAround_v0 m ps vs a).length (intsV (ValvesAround_v0 m ps vs a)) ∧ Below w.heap.size w w' := by
 have hl := rd_pipes_len ha
 have hl2 := rd_valves_len hb
 have hfl := findL_lt ps a
 go_enter Try.func16, Try.ntmps16
 refine F.begin 41 [(0, .agg #[.int .i64 m, .slice A n c]), (1, .slice A2 n2 c2), (2, .int .i64 a)] (fun U0 => ?_)
 refine wk fun K1 h1 => ?_
 refine W.region_plain (row := none) [(0, true), (1, false), (2, false)] kk ?_
 have s1 := SG.self w none
 refine W.sn (fun b => .pointer (some ⟨b, 0, none⟩)) #[.int .i64 m, .slice A n c] 26 s1 rfl kk rfl (fun _ => by kernel_rfl) (fun b2 w3 hb4 k5 x6 s7 => ?_)
 refine F.nx ?_
 have lo8 : w.heap.size ≤ b2 := Nat.le_trans ((SG.belowR (Below.refl _ _) s1 (fun kq e => by cases e))).size (Nat.le_of_eq hb4)
 refine Fa (.slice none 0 0) ?_
 refine Fa (.bool false) ?_
 refine F.es ?_
 have c9 := (SG.belowR (Below.refl _ _) s7 (fun kq e => by cases e))
 refine h1 _ _ ?_
 refine wk fun K2 h2 => ?_
 refine wk fun K3 h3 => ?_
 refine W.region_plain (row := none) [(0, false), (1, false), (2, true), (3, false), (4, false), (5, false), (6, false), (7, true), (8, false), (9, false)] kk ?_
 have s10 := SG.self w3 none
 refine Fq (.agg #[.int .i64 m, .slice A n c]) (r_load2 rfl ek kk kk (sgS (blk_cell (j := 0) x6 kk) (Option.some_ne_none _)) (sgS (blk_cell (j := 1) x6 kk) (Option.some_ne_none _))) ?_
 refine Fv (.slice A2 n2 c2) ?_
 refine Fc [.agg #[.int .i64 m, .slice A n c], .slice A2 n2 c2] (IsValidValves_any m A n c ps A2 n2 c2 vs _ (Rd.kept ha (SG.belowR c9 s10 (fun kq e => by cases e))) (Rd.kept hb (SG.belowR c9 s10 (fun kq e => by cases e))) (by omega) (by omega) hfm2) ?_
 rintro e w12 ⟨rfl, b11⟩
 have s13 := SG.of_below s10 b11
 refine ⟨_, rfl, s13, ?_⟩
 refine F.nx ?_
 rcases Bool.eq_false_or_eq_true (goodV m ps vs) with q14 | q14
 ·rw [q14]
  have hv9 := goodV_of q14
  have hg := hv9.net
  have hgl := hg.lo
  have hgh := hg.hi
  have hp := hg.pipesIn
  have hlen10 := hg.len
  have hu := hv9.uniq
  have hvl := hv9.len
  refine Fq (.bool false) (r_not (b := true) rfl ek rfl) ?_
  refine Fv (.bool false) ?_
  refine Fq (.agg #[.int .i64 m, .slice A n c]) (r_load2 rfl ek kk kk (sgS (blk_cell (j := 0) x6 kk) (Option.some_ne_none _)) (sgS (blk_cell (j := 1) x6 kk) (Option.some_ne_none _))) ?_
  refine Fv (.int .i64 a) ?_
  refine Fc [.agg #[.int .i64 m, .slice A n c], .int .i64 a] (pipeIndex_any m A n c ps a _ (Rd.kept ha (SG.belowR c9 s13 (fun kq e => by cases e))) (by omega)) ?_
  rintro e w16 ⟨rfl, b15⟩
  have s17 := SG.of_below s13 b15
  refine ⟨_, rfl, s17, ?_⟩
  refine F.nx ?_
  by_cases q18 : (findL ps a : Int) < (0 : Int)
  ·refine Fq (.bool true) (r_lss (m := findL ps a) (n := 0) rfl ek ek (decide_eq_true q18)) ?_
   refine Fq (.bool true) (r_pick (b := false) rfl ek ek) ?_
   refine F.es ?_
   have x6 := SG.blk s17 x6 (Option.some_ne_none _)
   have c19 := (SG.belowR c9 s17 (fun kq e => by cases e))
   refine h3 _ _ ?_
   refine wp_cond_true ek ?_
   refine wk fun K4 h4 => ?_
   refine W.region_quiet [(0, false), (1, false)] kk ?_
   refine Fa (.slice none 0 0) ?_
   refine Fa (.bool false) ?_
   refine F.es ?_
   refine h4 _ _ ?_
   refine wp_ret ?_
   try simp only [Exit.then]
   refine ret2 (v := .slice none 0 0) (x := .bool false) rfl kk kk ?_
   have ok20 : ValvesAround_v1 m ps vs a = false := by unfold ValvesAround_v1; rw [decide_eq_false (by omega), Bool.and_false]
   exact fin_ints (zs := []) (World.ownsRow_nil _ _ _ _) (by unfold ValvesAround_v0; rw [if_neg (by rw [ok20]; simp)]) ok20.symm c19
  refine Fq (.bool false) (r_lss (m := findL ps a) (n := 0) rfl ek ek (decide_eq_false q18)) ?_
  refine Fq (.bool false) (r_pick (b := false) rfl ek ek) ?_
  refine F.es ?_
  have x6 := SG.blk s17 x6 (Option.some_ne_none _)
  have c21 := (SG.belowR c9 s17 (fun kq e => by cases e))
  refine h3 _ _ ?_
  refine wp_cond_false ek ?_
  refine wp_skip ?_
  refine h2 _ _ ?_
  refine wk fun K5 h5 => ?_
  refine W.region_plain (row := none) [(0, true), (1, false)] kk ?_
  have s22 := SG.self w16 none
  refine W.sn (fun b => .slice (some ⟨b, 0, none⟩) 0 0) #[] 3 s22 rfl kk rfl (fun _ => by kernel_rfl) (fun b23 w24 hb25 k26 x27 s28 => ?_)
  refine F.nx ?_
  have lo29 : w.heap.size ≤ b23 := Nat.le_trans ((SG.belowR c21 s22 (fun kq e => by cases e))).size (Nat.le_of_eq hb25)
  have ne30 : b2 ≠ b23 := Nat.ne_of_lt (Nat.lt_of_lt_of_eq (Nat.lt_of_lt_of_le (blk_lt x6) (s22).size) hb25)
  refine Fa (.slice (some ⟨b23, 0, none⟩) 0 0) ?_
  refine F.es ?_
  have x6 := SG.blk s28 x6 (Option.some_ne_none _)
  have c31 := (SG.belowR c21 s28 (fun kq e => by cases e))
  refine h5 _ _ ?_
  refine wk fun K6 h6 => ?_
  refine wk fun K7 h7 => ?_
  refine W.region_plain (row := none) [(0, false), (1, false), (2, false), (3, true), (4, false), (5, false)] kk ?_
  have s32 := SG.self w24 none
  refine Fq (.agg #[.int .i64 m, .slice A n c]) (r_load2 rfl ek kk kk (sgS (blk_cell (j := 0) x6 kk) (Option.some_ne_none _)) (sgS (blk_cell (j := 1) x6 kk) (Option.some_ne_none _))) ?_
  refine Fv (.slice A2 n2 c2) ?_
  refine Fv (.int .i64 a) ?_
  refine Fc [.agg #[.int .i64 m, .slice A n c], .slice A2 n2 c2, .int .i64 a] (valvesAround_any m A n c ps A2 n2 c2 vs a _ (Rd.kept ha (SG.belowR c31 s32 (fun kq e => by cases e))) (Rd.kept hb (SG.belowR c31 s32 (fun kq e => by cases e))) (by omega) (by omega) hv9 (by omega)) ?_
  rintro e w42 ⟨A33, n34, c35, rfl, ho36, b41⟩
  have s43 := SG.of_below s32 b41
  refine ⟨_, rfl, s43, ?_⟩
  refine F.nx ?_
  have rd37 := own_rd ho36
  have hl38 := rd_ints_len rd37
  have sp45 := sp_freshB (g := b23) ho36 (Nat.lt_of_lt_of_le (blk_lt x27) (World.grownBy.size s32))
  have := aroundI_len ps vs (9 + findL ps a) vs.length
  refine Fq (.int .i64 (n34 : Int)) (r_len (A := A33) (n := n34) (c := c35) rfl ek kk) ?_
  refine Fv (.int .i64 0) ?_
  refine F.es ?_
  have x6 := SG.blk s43 x6 (Option.some_ne_none _)
  have x27 := SG.blk s43 x27 (Option.some_ne_none _)
  have c46 := (SG.belowR c31 s43 (fun kq e => by cases e))
  refine h7 _ _ ?_
  refine wp_block ?_
  have ho47 := own_empty (base := w.heap.size) (size := 1) x27 lo29
  replace ho47 : World.ownsRow _ _ _ _ _ _ (intsV []) := ho47
  have sp48 := sp_own (n' := 0) (c := 0) sp45
  have nb49 : Nb b2 (.slice (some ⟨b23, 0, none⟩) 0 0) := nb_new ne30
  refine loopK (fun am0 aa0 wl0 => ∃ (i : Nat) (A0_8 : Option Addr) (n0_8 : Nat) (c0_8 : Nat) , Kn aa0 [(0, .agg #[.int .i64 m, .slice A n c]), (1, .slice A2 n2 c2), (2, .int .i64 a), (3, .pointer (some ⟨b2, 0, none⟩)), (6, .slice none 0 0), (7, .bool false), (8, .slice A0_8 n0_8 c0_8), (20, .bool false), (25, .slice A33 n34 c35), (26, .int .i64 (n34 : Int)), (27, .int .i64 (i : Int))] 41 ∧ (am0 = n34 - i) ∧ (i ≤ n34) ∧ (n0_8 ≤ i) ∧ (wl0.heap[b2]? = some (.cells #[.int .i64 m, .slice A n c] 26 (0, 0))) ∧ (wl0.ownsRow w.heap.size 3 1 (.slice A0_8 n0_8 c0_8) n0_8 (intsV (idsV vs ((aroundI ps vs (9 + findL ps a) vs.length).take i)))) ∧ (Nb b2 (.slice A0_8 n0_8 c0_8)) ∧ (Rd wl0 1 A33 n34 (intsV (aroundI ps vs (9 + findL ps a) vs.length))) ∧ (Sp A33 n34 (Value.ownBlock (.slice A0_8 n0_8 c0_8))) ∧ (Below w.heap.size w wl0)) (n34 - 0) ?_ ?_
  ·exact ⟨0, (some ⟨b23, 0, none⟩), 0, 0, Kn.of, rfl, (Nat.zero_le _), (Nat.zero_le _), x6, ho47, nb49, rd37, sp48, c46⟩
  rintro am0 aa0 wl0 K8 h8 ⟨i, A0_8, n0_8, c0_8, ⟨U0, rfl⟩, rfl, hi, hb8, x6, ho0_8, nb0_8_b2, rd0_25, sp0_25_8, c50⟩
  refine wk fun K9 h9 => ?_
  refine W.region_quiet [(0, false)] kk ?_
  by_cases q51 : ((i : Int) : Int) < ((n34 : Int) : Int)
  ·refine Fq (.bool true) (r_lss (m := (i : Int)) (n := (n34 : Int)) rfl ek ek (decide_eq_true q51)) ?_
   refine F.es ?_
   refine h9 _ _ ?_
   refine wk fun K10 h10 => ?_
   refine wp_cond_true ek ?_
   refine wp_skip ?_
   refine h10 _ _ ?_
   refine wk fun K11 h11 => ?_
   refine wp_block ?_
   refine wk fun K12 h12 => ?_
   refine W.region_quiet [(0, false), (1, false), (2, false)] kk ?_
   obtain ⟨x52, hx53⟩ := get_of (zs := (aroundI ps vs (9 + findL ps a) vs.length)) (k := i) (by have := hl38; omega)
   obtain ⟨b54, o55, hA56, hb57, hc58⟩ := Rd.elInt rd0_25 hx53
   refine Fq (.pointer (some ⟨b54, o55 + i, none⟩)) (r_idx1 (n := n34) (c := c35) (k := i) rfl ek hA56 kk kk (by have := hl38; omega)) ?_
   refine Fl (.int .i64 x52) (eqS hc58) ?_
   refine Fa (.int .i64 x52) ?_
   refine F.es ?_
   refine h12 _ _ ?_
   refine W.region_plain (row := (Value.ownBlock (.slice A0_8 n0_8 c0_8))) [(0, false), (1, false), (2, false), (3, false), (4, false), (5, false), (6, true), (7, true), (8, false)] kk ?_
   have s59 := SG.self wl0 (Value.ownBlock (.slice A0_8 n0_8 c0_8))
   refine Fv (.slice A0_8 n0_8 c0_8) ?_
   refine Fv (.slice A2 n2 c2) ?_
   refine Fv (.int .i64 x52) ?_
   have hy9 := aroundI_in (List.mem_of_getElem? hx53)
   obtain ⟨x60, hx61⟩ := get_of (zs := vs) (k := x52.toNat) (by have := hl2; omega)
   obtain ⟨b62, o63, hA64, hb65, hc66, hc67, hc68, hc69⟩ := Rd.elValve hb hx61
   refine Fq (.pointer (some ⟨b62, o63 + x52.toNat * 4, none⟩)) (r_idx (n := n2) (c := c2) (k := x52.toNat) rfl ek hA64 (evk (z := x52) kk (by omega)) kk (by have := hl2; omega)) ?_
   refine Fq (.pointer (some ⟨b62, o63 + x52.toNat * 4, none⟩)) (r_field0 rfl ek kk) ?_
   refine Fl (.int .i64 x60.id) (sgS (later c50 hc66) (nb_lo ho0_8 hb65)) ?_
   refine W.sn (fun b => .slice (some ⟨b, 0, none⟩) 1 1) #[.int .i64 x60.id] 3 s59 rfl kk rfl (fun _ => by kernel_rfl) (fun b70 w71 hb72 k73 x74 s75 => ?_)
   refine F.nx ?_
   have lo76 : w.heap.size ≤ b70 := Nat.le_trans ((SG.belowR c50 s59 (fun kq e => (World.ownsRow.lt ho0_8 kq e).1))).size (Nat.le_of_eq hb72)
   have ho80 := own_kept ho0_8 k73
   refine W.sap (e := 3) (size := 1) (base := w.heap.size) (m := 1) (v := .slice A0_8 n0_8 c0_8) (c := 1) s75 rfl rfl rfl rfl kk kk kk ho80 x74 kk kk (by omega) (by omega) (by have := ((SG.belowR c50 s75 (fun kq e => (World.ownsRow.lt ho0_8 kq e).1))).size; omega) (.inl rfl) (fun g81 cap82 w83 ho84 hg85 hat86 hlt87 s88 => ?_)
   refine F.nx ?_
   have nb89 : Nb b2 (.slice (some ⟨g81, 0, none⟩) (n0_8 + 1) cap82) := nb_app nb0_8_b2 (Nat.lt_of_lt_of_le (blk_lt x6) (s75).size) hat86
   have ho84 := own_snoc ho84
   have sp91 := sp_app (v' := .slice (some ⟨g81, 0, none⟩) (n0_8 + 1) cap82) sp0_25_8 rd0_25 ((s75).size) (hat3 (v := .slice A0_8 n0_8 c0_8) hat86)
   refine Fa (.slice (some ⟨g81, 0, none⟩) (n0_8 + 1) cap82) ?_
   refine F.es ?_
   have x6 := SG.blk s88 x6 nb0_8_b2
   have c92 := (SG.belowR c50 s88 (fun kq e => (World.ownsRow.lt ho0_8 kq e).1))
   have rd93 := rd_sep rd0_25 s88 sp0_25_8
   refine h11 _ _ ?_
   refine W.region_quiet [(0, false), (1, false)] kk ?_
   refine Fq (.int .i64 ((i + 1 : Nat) : Int)) (r_add (m := (i : Int)) (n := 1) (z := ((i + 1 : Nat) : Int)) rfl ek ek (by omega) (by omega)) ?_
   refine Fv (.int .i64 ((i + 1 : Nat) : Int)) ?_
   refine F.es ?_
   exact h8 _ _ _ (by omega : (n34 - (i + 1)) < _) ⟨i + 1, (some ⟨g81, 0, none⟩), (n0_8 + 1), cap82, Kn.of, rfl, (by omega), (by omega), x6, (by rw [idsV_take hx53 hx61]; exact ho84), nb89, rd93, sp91, c92⟩
  refine Fq (.bool false) (r_lss (m := (i : Int)) (n := (n34 : Int)) rfl ek ek (decide_eq_false q51)) ?_
  refine F.es ?_
  refine h9 _ _ ?_
  refine wk fun K13 h13 => ?_
  refine wp_cond_false ek ?_
  refine wp_exit ?_
  refine h6 _ _ ?_
  refine wk fun K14 h14 => ?_
  refine W.region_quiet [(0, false), (1, false), (2, false)] kk ?_
  refine Fv (.slice A0_8 n0_8 c0_8) ?_
  refine Fa (.slice A0_8 n0_8 c0_8) ?_
  refine Fa (.bool true) ?_
  refine F.es ?_
  refine h14 _ _ ?_
  refine wp_ret ?_
  try simp only [Exit.then]
  refine ret2 (v := .slice A0_8 n0_8 c0_8) (x := .bool true) rfl kk kk ?_
  have ok94 : ValvesAround_v1 m ps vs a = true := by unfold ValvesAround_v1; rw [q14, decide_eq_true (by omega)]; try rfl
  exact fin_ints  ho0_8 (by unfold ValvesAround_v0; rw [if_pos ok94, List.take_of_length_le (by omega)]) ok94.symm c50
 rw [q14]
 refine Fq (.bool true) (r_not (b := false) rfl ek rfl) ?_
 refine Fv (.bool true) ?_
 refine Fs s13 ?_
 refine Fs s13 ?_
 refine Fs s13 ?_
 refine Fs s13 ?_
 refine Fq (.bool true) (r_pick (b := true) rfl ek ek) ?_
 refine F.es ?_
 have c95 := (SG.belowR c9 s13 (fun kq e => by cases e))
 refine h3 _ _ ?_
 refine wp_cond_true ek ?_
 refine wk fun K15 h15 => ?_
 refine W.region_quiet [(0, false), (1, false)] kk ?_
 refine Fa (.slice none 0 0) ?_
 refine Fa (.bool false) ?_
 refine F.es ?_
 refine h15 _ _ ?_
 refine wp_ret ?_
 try simp only [Exit.then]
 refine ret2 (v := .slice none 0 0) (x := .bool false) rfl kk kk ?_
 have ok96 : ValvesAround_v1 m ps vs a = false := by unfold ValvesAround_v1; rw [q14]; try rfl
 exact fin_ints (zs := []) (World.ownsRow_nil _ _ _ _) (by unfold ValvesAround_v0; rw [if_neg (by rw [ok96]; simp)]) ok96.symm c95
set_option maxRecDepth 100000 in
set_option maxHeartbeats 8000000 in
theorem ValvesAround_spec (m : Int) (A : Option Addr) (n c : Nat) (ps : List Pp) (A2 : Option Addr) (n2 c2 : Nat) (vs : List Vv) (a : Int) (w : World) (ha : Rd w 4 A n (pipesV ps)) (hb : Rd w 4 A2 n2 (valvesV vs)) (hn : n ≤ 1048576) (hn2 : n2 ≤ 1048576) (hfm : Fm A n c) (hfm2 : Fm A2 n2 c2) :
    Calls Try.prog 17 #[.agg #[.int .i64 m, .slice A n c], .slice A2 n2 c2, .int .i64 a] w fun e w' => ∃ A' d, e = .returned (.tuple #[.slice A' (ValvesAround_v0 m ps vs a).length d, .bool (ValvesAround_v1 m ps vs a)]) ∧ Rd w' 1 A' (ValvesAround_v0 m ps vs a).length (intsV (ValvesAround_v0 m ps vs a)) ∧ Below w.heap.size w w' := by
 have hl := rd_pipes_len ha
 have hl2 := rd_valves_len hb
 have hfl := findL_lt ps a
 go_enter Try.func17, Try.ntmps17
 refine F.begin 59 [(0, .agg #[.int .i64 m, .slice A n c]), (1, .slice A2 n2 c2), (2, .int .i64 a)] (fun U0 => ?_)
 refine wk fun K1 h1 => ?_
 refine W.region_plain (row := none) [(0, true), (1, false), (2, false)] kk ?_
 have s1 := SG.self w none
 refine W.sn (fun b => .pointer (some ⟨b, 0, none⟩)) #[.int .i64 m, .slice A n c] 26 s1 rfl kk rfl (fun _ => by kernel_rfl) (fun b2 w3 hb4 k5 x6 s7 => ?_)
 refine F.nx ?_
 have lo8 : w.heap.size ≤ b2 := Nat.le_trans ((SG.belowR (Below.refl _ _) s1 (fun kq e => by cases e))).size (Nat.le_of_eq hb4)
 refine Fa (.slice none 0 0) ?_
 refine Fa (.bool false) ?_
 refine F.es ?_
 have c9 := (SG.belowR (Below.refl _ _) s7 (fun kq e => by cases e))
 refine h1 _ _ ?_
 refine wk fun K2 h2 => ?_
 refine W.region_plain (row := none) [(0, true), (1, false)] kk ?_
 have s10 := SG.self w3 none
 refine W.sn (fun b => .slice (some ⟨b, 0, none⟩) 0 0) #[] 3 s10 rfl kk rfl (fun _ => by kernel_rfl) (fun b11 w12 hb13 k14 x15 s16 => ?_)
 refine F.nx ?_
 have lo17 : w.heap.size ≤ b11 := Nat.le_trans ((SG.belowR c9 s10 (fun kq e => by cases e))).size (Nat.le_of_eq hb13)
 have ne18 : b2 ≠ b11 := Nat.ne_of_lt (Nat.lt_of_lt_of_eq (Nat.lt_of_lt_of_le (blk_lt x6) (s10).size) hb13)
 refine Fa (.slice (some ⟨b11, 0, none⟩) 0 0) ?_
 refine F.es ?_
 have x6 := SG.blk s16 x6 (Option.some_ne_none _)
 have c19 := (SG.belowR c9 s16 (fun kq e => by cases e))
 refine h2 _ _ ?_
 refine wk fun K3 h3 => ?_
 refine W.region_plain (row := none) [(0, false), (1, false), (2, true), (3, false)] kk ?_
 have s20 := SG.self w12 none
 refine Fq (.agg #[.int .i64 m, .slice A n c]) (r_load2 rfl ek kk kk (sgS (blk_cell (j := 0) x6 kk) (Option.some_ne_none _)) (sgS (blk_cell (j := 1) x6 kk) (Option.some_ne_none _))) ?_
 refine Fv (.int .i64 a) ?_
 refine Fc [.agg #[.int .i64 m, .slice A n c], .int .i64 a] (l2Find_any m A n c ps a _ (Rd.kept ha (SG.belowR c19 s20 (fun kq e => by cases e))) (by omega)) ?_
 rintro e w22 ⟨rfl, b21⟩
 have s23 := SG.of_below s20 b21
 refine ⟨_, rfl, s23, ?_⟩
 refine F.nx ?_
 refine Fa (.int .i64 (findL ps a)) ?_
 refine F.es ?_
 have x6 := SG.blk s23 x6 (Option.some_ne_none _)
 have x15 := SG.blk s23 x15 (Option.some_ne_none _)
 have c24 := (SG.belowR c19 s23 (fun kq e => by cases e))
 refine h3 _ _ ?_
 refine wk fun K4 h4 => ?_
 refine wk fun K5 h5 => ?_
 refine W.region_plain (row := none) [(0, false), (1, false), (2, true), (3, false), (4, false), (5, false), (6, false), (7, false)] kk ?_
 have s25 := SG.self w22 none
 refine Fq (.agg #[.int .i64 m, .slice A n c]) (r_load2 rfl ek kk kk (sgS (blk_cell (j := 0) x6 kk) (Option.some_ne_none _)) (sgS (blk_cell (j := 1) x6 kk) (Option.some_ne_none _))) ?_
 refine Fv (.slice A2 n2 c2) ?_
 refine Fc [.agg #[.int .i64 m, .slice A n c], .slice A2 n2 c2] (l4Good_any m A n c ps A2 n2 c2 vs _ (Rd.kept ha (SG.belowR c24 s25 (fun kq e => by cases e))) (Rd.kept hb (SG.belowR c24 s25 (fun kq e => by cases e))) (by omega) (by omega)) ?_
 rintro e w27 ⟨rfl, b26⟩
 have s28 := SG.of_below s25 b26
 refine ⟨_, rfl, s28, ?_⟩
 refine F.nx ?_
 rcases Bool.eq_false_or_eq_true (goodV m ps vs) with q29 | q29
 ·rw [q29]
  have hv9 := goodV_of q29
  have hg := hv9.net
  have hgl := hg.lo
  have hgh := hg.hi
  have hp := hg.pipesIn
  have hlen10 := hg.len
  have hu := hv9.uniq
  have hvl := hv9.len
  refine Fq (.bool false) (r_not (b := true) rfl ek rfl) ?_
  refine Fv (.bool false) ?_
  refine Fv (.int .i64 (findL ps a)) ?_
  by_cases q30 : (findL ps a : Int) < (0 : Int)
  ·refine Fq (.bool true) (r_lss (m := findL ps a) (n := 0) rfl ek ek (decide_eq_true q30)) ?_
   refine Fq (.bool true) (r_pick (b := false) rfl ek ek) ?_
   refine F.es ?_
   have x6 := SG.blk s28 x6 (Option.some_ne_none _)
   have x15 := SG.blk s28 x15 (Option.some_ne_none _)
   have c31 := (SG.belowR c24 s28 (fun kq e => by cases e))
   refine h5 _ _ ?_
   refine wp_cond_true ek ?_
   refine wk fun K6 h6 => ?_
   refine W.region_quiet [(0, false), (1, false), (2, false)] kk ?_
   refine Fv (.slice (some ⟨b11, 0, none⟩) 0 0) ?_
   refine Fa (.slice (some ⟨b11, 0, none⟩) 0 0) ?_
   refine Fa (.bool false) ?_
   refine F.es ?_
   refine h6 _ _ ?_
   refine wp_ret ?_
   try simp only [Exit.then]
   refine ret2 (v := .slice (some ⟨b11, 0, none⟩) 0 0) (x := .bool false) rfl kk kk ?_
   have ok32 : ValvesAround_v1 m ps vs a = false := by unfold ValvesAround_v1; rw [decide_eq_false (by omega), Bool.and_false]
   have ho33 := own_empty (base := w.heap.size) (size := 1) x15 lo17
   replace ho33 : World.ownsRow _ _ _ _ _ _ (intsV []) := ho33
   exact fin_rd (zs := []) (own_rd ho33) (by unfold ValvesAround_v0; rw [if_neg (by rw [ok32]; simp)]) ok32.symm c31
  refine Fq (.bool false) (r_lss (m := findL ps a) (n := 0) rfl ek ek (decide_eq_false q30)) ?_
  refine Fq (.bool false) (r_pick (b := false) rfl ek ek) ?_
  refine F.es ?_
  have x6 := SG.blk s28 x6 (Option.some_ne_none _)
  have x15 := SG.blk s28 x15 (Option.some_ne_none _)
  have c35 := (SG.belowR c24 s28 (fun kq e => by cases e))
  refine h5 _ _ ?_
  refine wp_cond_false ek ?_
  refine wp_skip ?_
  refine h4 _ _ ?_
  refine wk fun K7 h7 => ?_
  refine W.region_plain (row := none) [(0, false), (1, false), (2, true), (3, false), (4, true), (5, true), (6, false), (7, false), (8, false), (9, false), (10, false)] kk ?_
  have s36 := SG.self w27 none
  refine Fq (.agg #[.int .i64 m, .slice A n c]) (r_load2 rfl ek kk kk (sgS (blk_cell (j := 0) x6 kk) (Option.some_ne_none _)) (sgS (blk_cell (j := 1) x6 kk) (Option.some_ne_none _))) ?_
  refine Fv (.slice A2 n2 c2) ?_
  refine W.sn (fun b => .slice (some ⟨b, 0, none⟩) 0 0) #[] 3 s36 rfl kk rfl (fun _ => by kernel_rfl) (fun b37 w38 hb39 k40 x41 s42 => ?_)
  refine F.nx ?_
  have lo43 : w.heap.size ≤ b37 := Nat.le_trans ((SG.belowR c35 s36 (fun kq e => by cases e))).size (Nat.le_of_eq hb39)
  refine Fv (.int .i64 (findL ps a)) ?_
  refine W.sn (fun b => .slice (some ⟨b, 0, none⟩) 1 1) #[.int .i64 (findL ps a)] 3 s42 rfl kk rfl (fun _ => by kernel_rfl) (fun b46 w47 hb48 k49 x50 s51 => ?_)
  refine F.nx ?_
  have lo52 : w.heap.size ≤ b46 := Nat.le_trans ((SG.belowR c35 s42 (fun kq e => by cases e))).size (Nat.le_of_eq hb48)
  have x41 := (k49.block _ (blk_lt x41)).trans x41
  have ho56 := own_empty (base := w.heap.size) (size := 1) x41 lo43
  replace ho56 : World.ownsRow _ _ _ _ _ _ (intsV []) := ho56
  have rd61 := own_rd ho56
  have hl62 := rd_ints_len rd61
  have ho63 := own_blk (base := w.heap.size) (size := 1) (n := 1) x50 lo52 rfl (by omega)
  replace ho63 : World.ownsRow _ _ _ _ _ _ (intsV [findL ps a]) := ho63
  have rd67 := own_rd ho63
  have hl68 := rd_ints_len rd67
  refine Fc [.agg #[.int .i64 m, .slice A n c], .slice A2 n2 c2, .bool false, .slice (some ⟨b37, 0, none⟩) 0 0, .slice (some ⟨b46, 0, none⟩) 1 1] (l4Spread_false m A n c ps A2 n2 c2 vs (9 + (findL ps a)) (some ⟨b37, 0, none⟩) 0 0 ([]) (some ⟨b46, 0, none⟩) 1 1 ([findL ps a]) _ (Rd.kept ha (SG.belowR c35 s51 (fun kq e => by cases e))) (Rd.kept hb (SG.belowR c35 s51 (fun kq e => by cases e))) (by omega) (by omega) hp (by omega) (by omega) rd61 (own_fm ho56) rd67 (own_fm ho63) (FndQ.startP _ (by omega))) ?_
  rintro e w84 ⟨A69, n70, c71, A72, n73, c74, rfl, rd75, fm76, rd77, fm78, b83⟩
  have s85 := SG.of_below s51 b83
  refine ⟨_, rfl, s85, ?_⟩
  refine F.nx ?_
  have hl81 := rd_ints_len rd75
  have hl82 := rd_ints_len rd77
  have := nodesL_len (linked ps (openQ vs false)) m.toNat (9 + (findL ps a)) true
  have := idxL_len (linked ps (openQ vs false)) ps.length (9 + (findL ps a)) true
  refine Fv (.tuple #[.slice A69 n70 c71, .slice A72 n73 c74]) ?_
  refine Fq (.slice A69 n70 c71) (r_extract (vs := #[.slice A69 n70 c71, .slice A72 n73 c74]) rfl ek kk) ?_
  refine Fq (.slice A72 n73 c74) (r_extract (vs := #[.slice A69 n70 c71, .slice A72 n73 c74]) rfl ek kk) ?_
  refine Fa (.slice A69 n70 c71) ?_
  refine Fa (.slice A72 n73 c74) ?_
  refine F.es ?_
  have x6 := SG.blk s85 x6 (Option.some_ne_none _)
  have x15 := SG.blk s85 x15 (Option.some_ne_none _)
  have c88 := (SG.belowR c35 s85 (fun kq e => by cases e))
  refine h7 _ _ ?_
  refine wk fun K8 h8 => ?_
  refine W.region_plain (row := none) [(0, false), (1, false), (2, false), (3, false), (4, true), (5, false)] kk ?_
  have s89 := SG.self w84 none
  refine Fq (.agg #[.int .i64 m, .slice A n c]) (r_load2 rfl ek kk kk (sgS (blk_cell (j := 0) x6 kk) (Option.some_ne_none _)) (sgS (blk_cell (j := 1) x6 kk) (Option.some_ne_none _))) ?_
  refine Fv (.slice A2 n2 c2) ?_
  refine Fv (.slice A69 n70 c71) ?_
  refine Fv (.slice A72 n73 c74) ?_
  refine Fc [.agg #[.int .i64 m, .slice A n c], .slice A2 n2 c2, .slice A69 n70 c71, .slice A72 n73 c74] (l4Around_any m A n c ps A2 n2 c2 vs a A69 n70 c71 A72 n73 c74 _ (Rd.kept ha (SG.belowR c88 s89 (fun kq e => by cases e))) (Rd.kept hb (SG.belowR c88 s89 (fun kq e => by cases e))) (by omega) (by omega) hv9 (by omega) (Rd.kept rd75 (SG.below s89)) (Rd.kept rd77 (SG.below s89))) ?_
  rintro e w99 ⟨A90, n91, c92, rfl, ho93, b98⟩
  have s100 := SG.of_below s89 b98
  refine ⟨_, rfl, s100, ?_⟩
  refine F.nx ?_
  have rd94 := own_rd ho93
  have hl95 := rd_ints_len rd94
  have sp102 := sp_freshB (g := b11) ho93 (Nat.lt_of_lt_of_le (blk_lt x15) (World.grownBy.size s89))
  have := aroundI_len ps vs (9 + findL ps a) vs.length
  refine Fa (.slice A90 n91 c92) ?_
  refine F.es ?_
  have x6 := SG.blk s100 x6 (Option.some_ne_none _)
  have x15 := SG.blk s100 x15 (Option.some_ne_none _)
  have c103 := (SG.belowR c88 s100 (fun kq e => by cases e))
  refine h8 _ _ ?_
  refine wk fun K9 h9 => ?_
  refine wk fun K10 h10 => ?_
  refine W.region_quiet [(0, false)] kk ?_
  refine Fa (.int .i64 0) ?_
  refine F.es ?_
  refine h10 _ _ ?_
  refine wp_block ?_
  have ho108 := own_empty (base := w.heap.size) (size := 1) x15 lo17
  replace ho108 : World.ownsRow _ _ _ _ _ _ (intsV []) := ho108
  have sp109 := sp_own (n' := 0) (c := 0) sp102
  have nb110 : Nb b2 (.slice (some ⟨b11, 0, none⟩) 0 0) := nb_new ne18
  refine loopK (fun am0 aa0 wl0 => ∃ (i : Nat) (A0_8 : Option Addr) (n0_8 : Nat) (c0_8 : Nat) , Kn aa0 [(0, .agg #[.int .i64 m, .slice A n c]), (1, .slice A2 n2 c2), (2, .int .i64 a), (3, .pointer (some ⟨b2, 0, none⟩)), (6, .slice none 0 0), (7, .bool false), (8, .slice A0_8 n0_8 c0_8), (9, .int .i64 (findL ps a)), (10, .slice A69 n70 c71), (11, .slice A72 n73 c74), (12, .slice A90 n91 c92), (13, .int .i64 (i : Int)), (25, .bool false)] 59 ∧ (am0 = n91 - i) ∧ (i ≤ n91) ∧ (n0_8 ≤ i) ∧ (wl0.heap[b2]? = some (.cells #[.int .i64 m, .slice A n c] 26 (0, 0))) ∧ (wl0.ownsRow w.heap.size 3 1 (.slice A0_8 n0_8 c0_8) n0_8 (intsV (idsV vs ((aroundI ps vs (9 + findL ps a) vs.length).take i)))) ∧ (Nb b2 (.slice A0_8 n0_8 c0_8)) ∧ (Rd wl0 1 A90 n91 (intsV (aroundI ps vs (9 + findL ps a) vs.length))) ∧ (Sp A90 n91 (Value.ownBlock (.slice A0_8 n0_8 c0_8))) ∧ (Below w.heap.size w wl0)) (n91 - 0) ?_ ?_
  ·exact ⟨0, (some ⟨b11, 0, none⟩), 0, 0, Kn.of, rfl, (Nat.zero_le _), (Nat.zero_le _), x6, ho108, nb110, rd94, sp109, c103⟩
  rintro am0 aa0 wl0 K11 h11 ⟨i, A0_8, n0_8, c0_8, ⟨U0, rfl⟩, rfl, hi, hb8, x6, ho0_8, nb0_8_b2, rd0_12, sp0_12_8, c111⟩
  refine wk fun K12 h12 => ?_
  refine wk fun K13 h13 => ?_
  refine W.region_quiet [(0, false), (1, false), (2, false), (3, false)] kk ?_
  refine Fv (.int .i64 (i : Int)) ?_
  refine Fv (.slice A90 n91 c92) ?_
  refine Fq (.int .i64 (n91 : Int)) (r_len (A := A90) (n := n91) (c := c92) rfl ek kk) ?_
  by_cases q112 : ((i : Int) : Int) < ((n91 : Int) : Int)
  ·refine Fq (.bool true) (r_lss (m := (i : Int)) (n := (n91 : Int)) rfl ek ek (decide_eq_true q112)) ?_
   refine F.es ?_
   refine h13 _ _ ?_
   refine wp_cond_true ek ?_
   refine wp_skip ?_
   refine h12 _ _ ?_
   refine wk fun K14 h14 => ?_
   refine wp_block ?_
   refine W.region_plain (row := (Value.ownBlock (.slice A0_8 n0_8 c0_8))) [(0, false), (1, false), (2, false), (3, false), (4, false), (5, false), (6, false), (7, false), (8, false), (9, true), (10, true), (11, false)] kk ?_
   have s113 := SG.self wl0 (Value.ownBlock (.slice A0_8 n0_8 c0_8))
   refine Fv (.slice A0_8 n0_8 c0_8) ?_
   refine Fv (.slice A2 n2 c2) ?_
   refine Fv (.slice A90 n91 c92) ?_
   refine Fv (.int .i64 (i : Int)) ?_
   obtain ⟨x114, hx115⟩ := get_of (zs := (aroundI ps vs (9 + findL ps a) vs.length)) (k := i) (by have := hl95; omega)
   obtain ⟨b116, o117, hA118, hb119, hc120⟩ := Rd.elInt rd0_12 hx115
   refine Fq (.pointer (some ⟨b116, o117 + i, none⟩)) (r_idx1 (n := n91) (c := c92) (k := i) rfl ek hA118 kk kk (by have := hl95; omega)) ?_
   refine Fl (.int .i64 x114) (sgS hc120 (sp0_12_8 (by omega) _ _ hA118)) ?_
   have hy9 := aroundI_in (List.mem_of_getElem? hx115)
   obtain ⟨x121, hx122⟩ := get_of (zs := vs) (k := x114.toNat) (by have := hl2; omega)
   obtain ⟨b123, o124, hA125, hb126, hc127, hc128, hc129, hc130⟩ := Rd.elValve hb hx122
   refine Fq (.pointer (some ⟨b123, o124 + x114.toNat * 4, none⟩)) (r_idx (n := n2) (c := c2) (k := x114.toNat) rfl ek hA125 (evk (z := x114) kk (by omega)) kk (by have := hl2; omega)) ?_
   refine Fq (.pointer (some ⟨b123, o124 + x114.toNat * 4, none⟩)) (r_field0 rfl ek kk) ?_
   refine Fl (.int .i64 x121.id) (sgS (later c111 hc127) (nb_lo ho0_8 hb126)) ?_
   refine W.sn (fun b => .slice (some ⟨b, 0, none⟩) 1 1) #[.int .i64 x121.id] 3 s113 rfl kk rfl (fun _ => by kernel_rfl) (fun b131 w132 hb133 k134 x135 s136 => ?_)
   refine F.nx ?_
   have lo137 : w.heap.size ≤ b131 := Nat.le_trans ((SG.belowR c111 s113 (fun kq e => (World.ownsRow.lt ho0_8 kq e).1))).size (Nat.le_of_eq hb133)
   have ho141 := own_kept ho0_8 k134
   refine W.sap (e := 3) (size := 1) (base := w.heap.size) (m := 1) (v := .slice A0_8 n0_8 c0_8) (c := 1) s136 rfl rfl rfl rfl kk kk kk ho141 x135 kk kk (by omega) (by omega) (by have := ((SG.belowR c111 s136 (fun kq e => (World.ownsRow.lt ho0_8 kq e).1))).size; omega) (.inl rfl) (fun g142 cap143 w144 ho145 hg146 hat147 hlt148 s149 => ?_)
   refine F.nx ?_
   have nb150 : Nb b2 (.slice (some ⟨g142, 0, none⟩) (n0_8 + 1) cap143) := nb_app nb0_8_b2 (Nat.lt_of_lt_of_le (blk_lt x6) (s136).size) hat147
   have ho145 := own_snoc ho145
   have sp152 := sp_app (v' := .slice (some ⟨g142, 0, none⟩) (n0_8 + 1) cap143) sp0_12_8 rd0_12 ((s136).size) (hat3 (v := .slice A0_8 n0_8 c0_8) hat147)
   refine Fa (.slice (some ⟨g142, 0, none⟩) (n0_8 + 1) cap143) ?_
   refine F.es ?_
   have x6 := SG.blk s149 x6 nb0_8_b2
   have c153 := (SG.belowR c111 s149 (fun kq e => (World.ownsRow.lt ho0_8 kq e).1))
   have rd154 := rd_sep rd0_12 s149 sp0_12_8
   refine h14 _ _ ?_
   refine W.region_quiet [(0, false), (1, false), (2, false)] kk ?_
   refine Fv (.int .i64 (i : Int)) ?_
   refine Fq (.int .i64 ((i + 1 : Nat) : Int)) (r_add (m := (i : Int)) (n := 1) (z := ((i + 1 : Nat) : Int)) rfl ek ek (by omega) (by omega)) ?_
   refine Fa (.int .i64 ((i + 1 : Nat) : Int)) ?_
   refine F.es ?_
   exact h11 _ _ _ (by omega : (n91 - (i + 1)) < _) ⟨i + 1, (some ⟨g142, 0, none⟩), (n0_8 + 1), cap143, Kn.of, rfl, (by omega), (by omega), x6, (by rw [idsV_take hx115 hx122]; exact ho145), nb150, rd154, sp152, c153⟩
  refine Fq (.bool false) (r_lss (m := (i : Int)) (n := (n91 : Int)) rfl ek ek (decide_eq_false q112)) ?_
  refine F.es ?_
  refine h13 _ _ ?_
  refine wp_cond_false ek ?_
  refine wp_exit ?_
  refine h9 _ _ ?_
  refine wk fun K15 h15 => ?_
  refine W.region_quiet [(0, false), (1, false), (2, false)] kk ?_
  refine Fv (.slice A0_8 n0_8 c0_8) ?_
  refine Fa (.slice A0_8 n0_8 c0_8) ?_
  refine Fa (.bool true) ?_
  refine F.es ?_
  refine h15 _ _ ?_
  refine wp_ret ?_
  try simp only [Exit.then]
  refine ret2 (v := .slice A0_8 n0_8 c0_8) (x := .bool true) rfl kk kk ?_
  have ok155 : ValvesAround_v1 m ps vs a = true := by unfold ValvesAround_v1; rw [q29, decide_eq_true (by omega)]; try rfl
  exact fin_rd  (own_rd ho0_8) (by unfold ValvesAround_v0; rw [if_pos ok155, List.take_of_length_le (by omega)]) ok155.symm c111
 rw [q29]
 refine Fq (.bool true) (r_not (b := false) rfl ek rfl) ?_
 refine Fv (.bool true) ?_
 refine Fs s28 ?_
 refine Fs s28 ?_
 refine Fq (.bool true) (r_pick (b := true) rfl ek ek) ?_
 refine F.es ?_
 have x15 := SG.blk s28 x15 (Option.some_ne_none _)
 have c156 := (SG.belowR c24 s28 (fun kq e => by cases e))
 refine h5 _ _ ?_
 refine wp_cond_true ek ?_
 refine wk fun K16 h16 => ?_
 refine W.region_quiet [(0, false), (1, false), (2, false)] kk ?_
 refine Fv (.slice (some ⟨b11, 0, none⟩) 0 0) ?_
 refine Fa (.slice (some ⟨b11, 0, none⟩) 0 0) ?_
 refine Fa (.bool false) ?_
 refine F.es ?_
 refine h16 _ _ ?_
 refine wp_ret ?_
 try simp only [Exit.then]
 refine ret2 (v := .slice (some ⟨b11, 0, none⟩) 0 0) (x := .bool false) rfl kk kk ?_
 have ok157 : ValvesAround_v1 m ps vs a = false := by unfold ValvesAround_v1; rw [q29]; try rfl
 have ho158 := own_empty (base := w.heap.size) (size := 1) x15 lo17
 replace ho158 : World.ownsRow _ _ _ _ _ _ (intsV []) := ho158
 exact fin_rd (zs := []) (own_rd ho158) (by unfold ValvesAround_v0; rw [if_neg (by rw [ok157]; simp)]) ok157.symm c156
end Go.Proofs.Ytdbgfejeleafgaa
namespace Go.Proofs.Ytdbgfejeleafgaa
open Go.RowKit
set_option linter.unusedVariables false
set_option linter.unusedSimpArgs false
abbrev idQ (a : Int) : Vv → Bool := fun v => decide (v.id = a)
def turnOk (vs : List Vv) (a : Int) (b : Bool) : Bool := decide (0 ≤ idxV (idQ a) vs) && (match vs[(idxV (idQ a) vs).toNat]? with | some v => !(v.shut == b) | none => false)
def turned (vs : List Vv) (a : Int) (b : Bool) : List Vv := match vs[(idxV (idQ a) vs).toNat]? with | some v => vs.set (idxV (idQ a) vs).toNat { v with shut := b } | none => []
theorem turned_len (vs : List Vv) (a : Int) (b : Bool) : (turned vs a b).length ≤ vs.length := by
  unfold turned; split <;> simp
theorem turnOk_at {vs : List Vv} {a : Int} {b : Bool} {k : Nat} {x : Vv} (e : idxV (idQ a) vs = (k : Int)) (hx : vs[k]? = some x) : turnOk vs a b = !(x.shut == b) := by
  unfold turnOk; rw [e, Int.toNat_natCast, hx, decide_eq_true (by omega), Bool.true_and]
theorem turned_at {vs : List Vv} {a : Int} {b : Bool} {k : Nat} {x : Vv} (e : idxV (idQ a) vs = (k : Int)) (hx : vs[k]? = some x) : turned vs a b = vs.set k { x with shut := b } := by
  unfold turned; rw [e, Int.toNat_natCast, hx]
def TurnValve_v1 (m : Int) (ps : List Pp) (vs : List Vv) (a : Int) (b : Bool) : Bool := goodV m ps vs && turnOk vs a b
def TurnValve_v0 (m : Int) (ps : List Pp) (vs : List Vv) (a : Int) (b : Bool) : List Vv := if TurnValve_v1 m ps vs a b = true then turned vs a b else []
theorem TurnValve_len (m : Int) (ps : List Pp) (vs : List Vv) (a : Int) (b : Bool) : (TurnValve_v0 m ps vs a b).length ≤ 1048576 := by
  unfold TurnValve_v0
  split
  · rename_i h
    have hg : goodV m ps vs = true := by unfold TurnValve_v1 at h; rw [Bool.and_eq_true] at h; exact h.1
    have := (goodV_of hg).len
    have := turned_len vs a b
    omega
  · simp
theorem fin_valves {w w' : World} {e : TypeId} {A : Option Addr} {n c : Nat} {zs us : List Vv} {b vb : Bool} (how : w'.ownsRow w.heap.size e 4 (.slice A n c) n (valvesV zs)) (hz : zs = us) (hb : b = vb) (bel : Below w.heap.size w w') :
    ∃ A' d, Ending.returned (.tuple #[.slice A n c, .bool b]) = .returned (.tuple #[.slice A' us.length d, .bool vb]) ∧ w'.ownsRow w.heap.size e 4 (.slice A' us.length d) us.length (valvesV us) ∧ Below w.heap.size w w' := by
  subst hz hb
  have hl := rd_valves_len (own_rd how)
  subst hl
  exact ⟨_, _, rfl, how, bel⟩
set_option maxRecDepth 100000 in
set_option maxHeartbeats 8000000 in
theorem TurnValve_impl (m : Int) (A : Option Addr) (n c : Nat) (ps : List Pp) (A2 : Option Addr) (n2 c2 : Nat) (vs : List Vv) (a : Int) (b : Bool) (w : World) (ha : Rd w 4 A n (pipesV ps)) (hb : Rd w 4 A2 n2 (valvesV vs)) (hn : n ≤ 1048576) (hn2 : n2 ≤ 1048576) (hfm : Fm A n c) (hfm2 : Fm A2 n2 c2) :
    Calls Try.prog 18 #[.agg #[.int .i64 m, .slice A n c], .slice A2 n2 c2, .int .i64 a, .bool b] w fun e w' => ∃ A' d, e = .returned (.tuple #[.slice A' (TurnValve_v0 m ps vs a b).length d, .bool (TurnValve_v1 m ps vs a b)]) ∧ w'.ownsRow w.heap.size 40 4 (.slice A' (TurnValve_v0 m ps vs a b).length d) (TurnValve_v0 m ps vs a b).length (valvesV (TurnValve_v0 m ps vs a b)) ∧ Below w.heap.size w w' := by
 have hl := rd_pipes_len ha
 have hl2 := rd_valves_len hb
 go_enter Try.func18, Try.ntmps18
 refine F.begin 41 [(0, .agg #[.int .i64 m, .slice A n c]), (1, .slice A2 n2 c2), (2, .int .i64 a), (3, .bool b)] (fun U0 => ?_)
 refine wk fun K1 h1 => ?_
 refine W.region_plain (row := none) [(0, true), (1, false), (2, false)] kk ?_
 have s1 := SG.self w none
 refine W.sn (fun b => .pointer (some ⟨b, 0, none⟩)) #[.int .i64 m, .slice A n c] 26 s1 rfl kk rfl (fun _ => by kernel_rfl) (fun b2 w3 hb4 k5 x6 s7 => ?_)
 refine F.nx ?_
 have lo8 : w.heap.size ≤ b2 := Nat.le_trans ((SG.belowR (Below.refl _ _) s1 (fun kq e => by cases e))).size (Nat.le_of_eq hb4)
 refine Fa (.slice none 0 0) ?_
 refine Fa (.bool false) ?_
 refine F.es ?_
 have c9 := (SG.belowR (Below.refl _ _) s7 (fun kq e => by cases e))
 refine h1 _ _ ?_
 refine wk fun K2 h2 => ?_
 refine W.region_plain (row := none) [(0, false), (1, false), (2, true), (3, false)] kk ?_
 have s10 := SG.self w3 none
 refine Fv (.slice A2 n2 c2) ?_
 refine Fv (.int .i64 a) ?_
 refine Fc [.slice A2 n2 c2, .int .i64 a] (valveIndex_any A2 n2 c2 vs a _ (Rd.kept hb (SG.belowR c9 s10 (fun kq e => by cases e))) (by omega)) ?_
 rintro e w12 ⟨rfl, b11⟩
 have s13 := SG.of_below s10 b11
 refine ⟨_, rfl, s13, ?_⟩
 refine F.nx ?_
 refine Fa (.int .i64 (idxV (idQ a) vs)) ?_
 refine F.es ?_
 have x6 := SG.blk s13 x6 (Option.some_ne_none _)
 have c14 := (SG.belowR c9 s13 (fun kq e => by cases e))
 refine h2 _ _ ?_
 refine wk fun K3 h3 => ?_
 refine wk fun K4 h4 => ?_
 refine W.region_plain (row := none) [(0, false), (1, false), (2, true), (3, false), (4, false), (5, false), (6, false), (7, false), (8, false), (9, false), (10, false), (11, false), (12, false), (13, false), (14, false), (15, false), (16, false)] kk ?_
 have s15 := SG.self w12 none
 refine Fq (.agg #[.int .i64 m, .slice A n c]) (r_load2 rfl ek kk kk (sgS (blk_cell (j := 0) x6 kk) (Option.some_ne_none _)) (sgS (blk_cell (j := 1) x6 kk) (Option.some_ne_none _))) ?_
 refine Fv (.slice A2 n2 c2) ?_
 refine Fc [.agg #[.int .i64 m, .slice A n c], .slice A2 n2 c2] (IsValidValves_any m A n c ps A2 n2 c2 vs _ (Rd.kept ha (SG.belowR c14 s15 (fun kq e => by cases e))) (Rd.kept hb (SG.belowR c14 s15 (fun kq e => by cases e))) (by omega) (by omega) hfm2) ?_
 rintro e w17 ⟨rfl, b16⟩
 have s18 := SG.of_below s15 b16
 refine ⟨_, rfl, s18, ?_⟩
 refine F.nx ?_
 rcases Bool.eq_false_or_eq_true (goodV m ps vs) with q19 | q19
 ·rw [q19]
  have hv9 := goodV_of q19
  have hg := hv9.net
  have hgl := hg.lo
  have hgh := hg.hi
  have hp := hg.pipesIn
  have hlen10 := hg.len
  have hu := hv9.uniq
  have hvl := hv9.len
  refine Fq (.bool false) (r_not (b := true) rfl ek rfl) ?_
  refine Fv (.bool false) ?_
  refine Fv (.int .i64 (idxV (idQ a) vs)) ?_
  by_cases q20 : ((idxV (idQ a) vs) : Int) < (0 : Int)
  ·refine Fq (.bool true) (r_lss (m := (idxV (idQ a) vs)) (n := 0) rfl ek ek (decide_eq_true q20)) ?_
   refine Fq (.bool true) (r_pick (b := false) rfl ek ek) ?_
   refine Fv (.bool true) ?_
   refine Fs s18 ?_
   refine Fs s18 ?_
   refine Fs s18 ?_
   refine Fs s18 ?_
   refine Fs s18 ?_
   refine Fs s18 ?_
   refine Fs s18 ?_
   refine Fq (.bool true) (r_pick (b := true) rfl ek ek) ?_
   refine F.es ?_
   have c21 := (SG.belowR c14 s18 (fun kq e => by cases e))
   refine h4 _ _ ?_
   refine wp_cond_true ek ?_
   refine wk fun K5 h5 => ?_
   refine W.region_quiet [(0, false), (1, false)] kk ?_
   refine Fa (.slice none 0 0) ?_
   refine Fa (.bool false) ?_
   refine F.es ?_
   refine h5 _ _ ?_
   refine wp_ret ?_
   try simp only [Exit.then]
   refine ret2 (v := .slice none 0 0) (x := .bool false) rfl kk kk ?_
   have ok22 : TurnValve_v1 m ps vs a b = false := by unfold TurnValve_v1 turnOk; rw [decide_eq_false (by omega), Bool.false_and, Bool.and_false]
   exact fin_valves (zs := []) (World.ownsRow_nil _ _ _ _) (by unfold TurnValve_v0; rw [if_neg (by rw [ok22]; simp)]) ok22.symm c21
  refine Fq (.bool false) (r_lss (m := (idxV (idQ a) vs)) (n := 0) rfl ek ek (decide_eq_false q20)) ?_
  refine Fq (.bool false) (r_pick (b := false) rfl ek ek) ?_
  refine Fv (.bool false) ?_
  refine Fv (.slice A2 n2 c2) ?_
  refine Fv (.int .i64 (idxV (idQ a) vs)) ?_
  obtain ⟨k9, x9, e9, hx9, hq9⟩ := idx_some (vs := vs) (q := idQ a) (by omega)
  have hk9 := (List.getElem?_eq_some_iff.1 hx9).1
  obtain ⟨b23, o24, hA25, hb26, hc27, hc28, hc29, hc30⟩ := Rd.elValve hb hx9
  refine Fq (.pointer (some ⟨b23, o24 + k9 * 4, none⟩)) (r_idx (n := n2) (c := c2) (k := k9) rfl ek hA25 (evk (z := (idxV (idQ a) vs)) kk e9) kk (by have := hl2; omega)) ?_
  refine Fq (.pointer (some ⟨b23, o24 + k9 * 4 + 3, none⟩)) (r_field (k := 3) rfl ek kk) ?_
  refine Fl (.bool x9.shut) (sgS (later c14 hc30) (by simp)) ?_
  refine Fv (.bool b) ?_
  by_cases q31 : x9.shut = b
  ·refine Fq (.bool true) (r_eqlB (m := x9.shut) (n := b) rfl ek ek kk (beq_iff_eq.2 q31)) ?_
   refine Fq (.bool true) (r_pick (b := false) rfl ek ek) ?_
   refine F.es ?_
   have c32 := (SG.belowR c14 s18 (fun kq e => by cases e))
   refine h4 _ _ ?_
   refine wp_cond_true ek ?_
   refine wk fun K6 h6 => ?_
   refine W.region_quiet [(0, false), (1, false)] kk ?_
   refine Fa (.slice none 0 0) ?_
   refine Fa (.bool false) ?_
   refine F.es ?_
   refine h6 _ _ ?_
   refine wp_ret ?_
   try simp only [Exit.then]
   refine ret2 (v := .slice none 0 0) (x := .bool false) rfl kk kk ?_
   have ok33 : TurnValve_v1 m ps vs a b = false := by unfold TurnValve_v1; rw [turnOk_at e9 hx9, beq_iff_eq.2 q31, Bool.not_true, Bool.and_false]
   exact fin_valves (zs := []) (World.ownsRow_nil _ _ _ _) (by unfold TurnValve_v0; rw [if_neg (by rw [ok33]; simp)]) ok33.symm c32
  refine Fq (.bool false) (r_eqlB (m := x9.shut) (n := b) rfl ek ek kk (beq_eq_false_iff_ne.2 q31)) ?_
  refine Fq (.bool false) (r_pick (b := false) rfl ek ek) ?_
  refine F.es ?_
  have c34 := (SG.belowR c14 s18 (fun kq e => by cases e))
  refine h4 _ _ ?_
  refine wp_cond_false ek ?_
  refine wp_skip ?_
  refine h3 _ _ ?_
  refine wk fun K7 h7 => ?_
  refine W.region_plain (row := none) [(0, true), (1, false), (2, true), (3, false)] kk ?_
  have s35 := SG.self w17 none
  refine W.sn (fun b => .slice (some ⟨b, 0, none⟩) 0 0) #[] 40 s35 rfl kk rfl (fun _ => by kernel_rfl) (fun b36 w37 hb38 k39 x40 s41 => ?_)
  refine F.nx ?_
  have lo42 : w.heap.size ≤ b36 := Nat.le_trans ((SG.belowR c34 s35 (fun kq e => by cases e))).size (Nat.le_of_eq hb38)
  refine Fv (.slice A2 n2 c2) ?_
  have ho44 := own_empty (base := w.heap.size) (size := 4) x40 lo42
  replace ho44 : World.ownsRow _ _ _ _ _ _ (valvesV []) := ho44
  replace ho44 : World.ownsRow _ _ _ _ _ _ (valvesV []) := ho44
  refine W.sapR (e := 40) (size := 4) (base := w.heap.size) (v := .slice (some ⟨b36, 0, none⟩) 0 0) (A := A2) (m := n2) (c := c2) s41 rfl rfl rfl rfl kk kk kk ho44 (Rd.kept hb (SG.belowR c34 s41 (fun kq e => by cases e))) hfm2 (valves_one _) (by omega) (by have := ((SG.belowR c34 s41 (fun kq e => by cases e))).size; omega) (.inr (fun kq e => by have := (s35).size; have := hb38; have e' := Option.some.inj e; simp at e'; omega)) (fun A46 cap47 w48 ho49 hg50 hat51 s52 => ?_)
  refine F.nx ?_
  have ho49 := own_joinV ho49
  have fr54 : ∀ kq, (.slice A46 (0 + n2) cap47 : Value).ownBlock = some kq → w17.heap.size ≤ kq := fun kq e => by
    have hs := (s41).size
    rcases hat51 with h | h
    · exact (show ∀ kq, Value.ownBlock _ = some kq → w17.heap.size ≤ kq from (fun kq e => by have := (s35).size; have := hb38; have e' := Option.some.inj e; simp at e'; omega)) kq (h.symm.trans e)
    · have := Option.some.inj (h.symm.trans e); omega
  replace ho49 : World.ownsRow _ _ _ _ _ _ (valvesV vs) := ho49
  refine Fa (.slice A46 (0 + n2) cap47) ?_
  refine F.es ?_
  have c55 := (SG.belowR c34 s52 (fun kq e => by cases e))
  refine h7 _ _ ?_
  refine wk fun K8 h8 => ?_
  refine W.region_plain (row := (Value.ownBlock (.slice A46 (0 + n2) cap47))) [(0, false), (1, false), (2, false), (3, false), (4, false), (5, true)] kk ?_
  have s56 := SG.self w48 (Value.ownBlock (.slice A46 (0 + n2) cap47))
  refine Fv (.slice A46 (0 + n2) cap47) ?_
  refine Fv (.int .i64 (idxV (idQ a) vs)) ?_
  refine Fv (.bool b) ?_
  obtain ⟨g57, rfl, _, _⟩ := own_addr ho49 (by omega)
  refine Fq (.pointer (some ⟨g57, 0 + k9 * 4, none⟩)) (r_idx (n := (0 + n2)) (c := cap47) (k := k9) (size := 4) rfl ek rfl (evk (z := (idxV (idQ a) vs)) kk e9) kk (by omega)) ?_
  refine Fq (.pointer (some ⟨g57, 0 + k9 * 4 + 3, none⟩)) (r_field (k := 3) rfl ek kk) ?_
  refine W.sst (base := w.heap.size) (e := 40) (size := 4) (n := (0 + n2)) (c := cap47) (j := 0 + k9 * 4 + 3) (u := .bool b) (news := [.bool b]) s56 rfl kk rfl rfl kk kk ho49 kk kk kk (by simp only [List.length_cons, List.length_nil]; omega) (.inl rfl) (fun w58 ho59 g60 s61 => ?_)
  have ho59 := own_setU hx9 ho59
  refine F.es ?_
  have c62 := (SG.belowR c55 s61 (fun kq e => (World.ownsRow.lt ho49 kq e).1))
  refine h8 _ _ ?_
  refine wk fun K9 h9 => ?_
  refine W.region_quiet [(0, false), (1, false), (2, false)] kk ?_
  refine Fv (.slice (some ⟨g57, 0, none⟩) (0 + n2) cap47) ?_
  refine Fa (.slice (some ⟨g57, 0, none⟩) (0 + n2) cap47) ?_
  refine Fa (.bool true) ?_
  refine F.es ?_
  refine h9 _ _ ?_
  refine wp_ret ?_
  try simp only [Exit.then]
  refine ret2 (v := .slice (some ⟨g57, 0, none⟩) (0 + n2) cap47) (x := .bool true) rfl kk kk ?_
  have ok63 : TurnValve_v1 m ps vs a b = true := by unfold TurnValve_v1; rw [q19, turnOk_at e9 hx9, beq_eq_false_iff_ne.2 q31]; try rfl
  exact fin_valves ho59 (by unfold TurnValve_v0; rw [if_pos ok63, turned_at e9 hx9]) ok63.symm c62
 rw [q19]
 refine Fq (.bool true) (r_not (b := false) rfl ek rfl) ?_
 refine Fv (.bool true) ?_
 refine Fs s18 ?_
 refine Fs s18 ?_
 refine Fq (.bool true) (r_pick (b := true) rfl ek ek) ?_
 refine Fv (.bool true) ?_
 refine Fs s18 ?_
 refine Fs s18 ?_
 refine Fs s18 ?_
 refine Fs s18 ?_
 refine Fs s18 ?_
 refine Fs s18 ?_
 refine Fs s18 ?_
 refine Fq (.bool true) (r_pick (b := true) rfl ek ek) ?_
 refine F.es ?_
 have c64 := (SG.belowR c14 s18 (fun kq e => by cases e))
 refine h4 _ _ ?_
 refine wp_cond_true ek ?_
 refine wk fun K10 h10 => ?_
 refine W.region_quiet [(0, false), (1, false)] kk ?_
 refine Fa (.slice none 0 0) ?_
 refine Fa (.bool false) ?_
 refine F.es ?_
 refine h10 _ _ ?_
 refine wp_ret ?_
 try simp only [Exit.then]
 refine ret2 (v := .slice none 0 0) (x := .bool false) rfl kk kk ?_
 have ok65 : TurnValve_v1 m ps vs a b = false := by unfold TurnValve_v1; rw [q19]; try rfl
 exact fin_valves (zs := []) (World.ownsRow_nil _ _ _ _) (by unfold TurnValve_v0; rw [if_neg (by rw [ok65]; simp)]) ok65.symm c64
end Go.Proofs.Ytdbgfejeleafgaa
namespace Go.Proofs.Ytdbgfejeleafgaa
open Go.RowKit
set_option linter.unusedVariables false
set_option linter.unusedSimpArgs false
end Go.Proofs.Ytdbgfejeleafgaa
